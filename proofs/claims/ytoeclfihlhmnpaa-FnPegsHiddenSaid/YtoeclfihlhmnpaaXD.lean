import Derived.Test.YtoeclfihlhmnpaaXF
import Derived.Test.YtoeclfihlhmnpaaX3
import Derived.Test.YtoeclfihlhmnpaaX5
namespace Go.Proofs.Ytoeclfihlhmnpaa.Hd
open Go Go.RowKit Go.Proofs.Ytoeclfihlhmnpaa.XW Go.Proofs.YtoeclfihlhmnpaaW.PrintWords Go.Proofs.YtoeclfihlhmnpaaW.PrintLast Go.Proofs.Ytoeclfihlhmnpaa.X Go.Proofs.Ytoeclfihlhmnpaa.Ex
set_option linter.unusedVariables false
set_option linter.unusedSimpArgs false
/-- The cursor's contents: n numbers have been read. -/
structure CU (W0 : World) (f0 : List Int) (n : Int) (cs : List Value) : Prop where
  is : ∃ (A : Option Addr) (c : Nat) (sd : Int), cs = [.slice A f0.length c, .int .i64 n, .int .u64 sd] ∧ Kd.C (Kd.int .u8) W0 A f0.length f0
  by_ : ∀ x ∈ f0, 0 ≤ x ∧ x < 256
/-- The draw's cursor at a world. -/
structure CP (W0 : World) (f0 : List Int) (g : Nat) (n : Int) (cs : List Value) (w : World) : Prop where
  bel : Below W0.heap.size W0 w
  ge : W0.heap.size ≤ g
  at_ : w.heap[g]? = some (.cells cs.toArray 80 (0, 0))
  cu : CU W0 f0 n cs
/-- What a step of the cursor leaves: at most m numbers further; nothing else that stood has turned. -/
structure CC (W0 : World) (f0 : List Int) (g : Nat) (n m n' : Int) (cs' : List Value) (w w' : World) : Prop where
  bel : Below W0.heap.size W0 w'
  keep : KeepBut w w' g none
  at_ : w'.heap[g]? = some (.cells cs'.toArray 80 (0, 0))
  cu : CU W0 f0 n' cs'
section
variable {W0 w0 w w1 : World} {S : Option Nat} {bs bs' : List Bx} {rs : List Rw} {f0 : List Int} {g : Nat} {n m n' : Int} {cs cs' : List Value}
theorem cpM (HM : Me W0 w0 S w bs rs) (hc : CU W0 f0 n cs) (hm : (⟨g, 80, cs⟩ : Bx) ∈ bs := by repeat (first | exact List.mem_cons_self | apply List.mem_cons_of_mem)) : CP W0 f0 g n cs w := by
  obtain ⟨k, hk⟩ := List.mem_iff_getElem?.1 hm
  exact ⟨HM.bel, HM.ge hk, HM.at_ hk, hc⟩
theorem cuM (HM : Me W0 w0 S w bs rs) (h : CC W0 f0 g n m n' cs' w w1) (hm : Pt ⟨g, 80, cs⟩ ⟨g, 80, cs'⟩ bs bs' := by repeat (first | exact Pt.hd | apply Pt.tl)) : Me W0 w0 S w1 bs' rs := HM.curp h.keep h.at_ h.bel hm.set
theorem CP.me (h : CP W0 f0 g n cs w) : Me W0 w (some g) w [⟨g, 80, cs⟩] [] := Me.startC h.bel h.ge h.at_
theorem ccM (HM : Me W0 w0 (some g) w bs rs) (hc : CU W0 f0 n' cs') (hm : (⟨g, 80, cs'⟩ : Bx) ∈ bs := by repeat (first | exact List.mem_cons_self | apply List.mem_cons_of_mem)) : CC W0 f0 g n m n' cs' w0 w := by
  obtain ⟨k, hk⟩ := List.mem_iff_getElem?.1 hm
  exact ⟨HM.bel, HM.keep, HM.at_ hk, hc⟩
end
theorem next_f (f0 : List Int) (n sd : Int) (hy : ∀ x ∈ f0, 0 ≤ x ∧ x < 256) (hn : 0 ≤ n ∧ n ≤ 1099511627776) : ∃ r sd', spec_l1Cur_next.f f0 n sd = some (r, n + 1, sd') ∧ 0 ≤ r ∧ r < 256 := by
  have hw : wrap64 (n + 1) = n + 1 := by unfold wrap64; omega
  have hx : 0 ≤ wrap64 (rd f0 n) ∧ wrap64 (rd f0 n) < 256 := by
    have h1 : 0 ≤ rd f0 n ∧ rd f0 n < 256 := by
      unfold rd
      by_cases h : n.toNat < f0.length
      · rw [List.getD_eq_getElem?_getD, List.getElem?_eq_getElem h]
        exact hy _ (List.getElem_mem h)
      · rw [List.getD_eq_getElem?_getD, List.getElem?_eq_none (by omega)]
        exact ⟨Int.le_refl _, by decide⟩
    unfold wrap64; omega
  have hb : ∀ x : Int, 0 ≤ wrap64 (Go.bits .and .u64 (IntKind.u64.wrap x / 1099511627776) 255) ∧ wrap64 (Go.bits .and .u64 (IntKind.u64.wrap x / 1099511627776) 255) < 256 := by
    intro x
    have hu : IntKind.u64.wrap x = x % 18446744073709551616 := by simp [IntKind.wrap, IntKind.bits, IntKind.signed]
    have hk : ∀ m : Int, 0 ≤ m → m < 2 ^ 64 → IntKind.u64.wrap m = m := by
      intro m h1 h2
      have : IntKind.u64.wrap m = m % 18446744073709551616 := by simp [IntKind.wrap, IntKind.bits, IntKind.signed]
      rw [this]
      omega
    have h3 := bits_mask .u64 64 (by decide) hk 8 (by decide) (IntKind.u64.wrap x / 1099511627776) (by omega) (by omega)
    rw [show (2 : Int) ^ 8 - 1 = 255 from rfl] at h3
    rw [h3]
    unfold wrap64
    omega
  unfold spec_l1Cur_next.f
  rw [hw, if_pos hn.1]
  split
  · split
    · exact ⟨_, _, rfl, hx.1, hx.2⟩
    · exact ⟨_, _, rfl, (hb _).1, (hb _).2⟩
  · split
    · exact ⟨_, _, rfl, by decide, by decide⟩
    · exact ⟨_, _, rfl, (hb _).1, (hb _).2⟩
theorem next_c {W0 w : World} {f0 : List Int} {g : Nat} {n : Int} {cs : List Value} (h : CP W0 f0 g n cs w) (hn : 0 ≤ n ∧ n ≤ 1099511627776) : Calls Try.prog 88 #[.pointer (some ⟨g, 0, none⟩)] w fun e w' => ∃ (r n' : Int) (cs' : List Value), e = .returned (.int .i64 r) ∧ (0 ≤ r ∧ r < 256 ∧ n ≤ n' ∧ n' ≤ n + 1) ∧ CC W0 f0 g n 1 n' cs' w w' := by
  obtain ⟨⟨A, c, sd, rfl, hC⟩, hy⟩ := h.cu
  obtain ⟨r, sd', hf, h1, h2⟩ := next_f f0 n sd hy hn
  refine (spec_l1Cur_next.calls g f0 n sd r (n + 1) sd' W0 w ⟨A, c, h.at_, h.ge, hC⟩ h.bel hf).mono ?_
  rintro e w' ⟨rfl, ⟨A', c', h3, _, h6⟩, h4, h5⟩
  exact ⟨r, n + 1, _, rfl, ⟨h1, h2, by omega, by omega⟩, h4, h5, h3, ⟨A', c', sd', rfl, h6⟩, hy⟩
theorem tm {x v : Int} (hx : 0 ≤ x) (hv : 1 < v) : 0 ≤ x.tmod v ∧ (x.tmod v < v ∨ x.tmod v = 0) := ⟨Int.tmod_nonneg v hx, Or.inl (Int.tmod_lt_of_pos x (by omega))⟩
theorem keepInt {w w1 : World} {ad : Addr} {g : Nat} {xs : List Int} (h : Kd.C (Kd.int .i64) w (some ad) xs.length xs) (hk : KeepBut w w1 g none) (hne : ad.block ≠ g) (i : Int) (h0 : 0 ≤ i) (h1 : i < xs.length) : w1.cell? (ad.add (i.toNat * 1)) = some (.int .i64 (rd xs i)) := by
  obtain ⟨ad', e, hc⟩ := Kd.at_int h i h0 h1
  obtain rfl := Option.some.inj e
  rw [Nat.mul_one]
  have hb : (ad.add i.toNat).block = ad.block := by unfold Addr.add; split <;> rfl
  rw [World.cell?_of_block (w := w) (hk.2 _ (World.block_lt_of_cell? w _ hc) (by rw [hb]; exact hne) (by simp))]
  exact hc
theorem blkne {W0 w0 w : World} {S : Option Nat} {bs : List Bx} {rs : List Rw} {α : Type} {d : Kd α} {e n c g t : Nat} {ad : Addr} {xs : List α} {cs : List Value} (h : Me W0 w0 S w bs rs) (hm : (⟨d, e, .slice (some ad) n c, xs⟩ : Rw) ∈ rs := by repeat (first | exact List.mem_cons_self | apply List.mem_cons_of_mem)) (hb : (⟨g, t, cs⟩ : Bx) ∈ bs := by repeat (first | exact List.mem_cons_self | apply List.mem_cons_of_mem)) : ad.block ≠ g := fun e_ => h.far _ hm _ hb (by simp [Value.ownBlock, e_])
theorem cuRow {W0 w0 w w1 : World} {S : Option Nat} {bs bs' : List Bx} {rs : List Rw} {f0 : List Int} {g : Nat} {n m n' : Int} {cs cs' : List Value} {α : Type} {d : Kd α} {e : Nat} {v : Value} {xs : List α} (HM : Me W0 w0 S w bs rs) (h : CC W0 f0 g n m n' cs' w w1) (hR : d.R e w1 w.heap.size (fun _ => True) v xs) (hm : Pt ⟨g, 80, cs⟩ ⟨g, 80, cs'⟩ bs bs' := by repeat (first | exact Pt.hd | apply Pt.tl)) (hE : d.E = [] := by rfl) : Me W0 w0 S w1 bs' (⟨d, e, v, xs⟩ :: rs) := by
  refine (cuM HM h hm).rowU (fun x hx => ?_) HM.sz hR hE
  obtain ⟨k, hk, rfl⟩ := hm.set
  rcases List.mem_or_eq_of_mem_set hx with h1 | h1
  · exact blk_lt (HM.box x h1).2
  · subst h1
    exact blk_lt (HM.at_ hk)
/-- The reference's MakePuzzle, whatever it is asked: a puzzle of at most six clues. -/
structure MKS : Prop where
  run : ∀ (side x y n z : Int) (w : World), Calls Try.prog 17 #[.int .i64 side, .agg #[.int .i64 x, .int .i64 y], .int .i64 n, .int .i64 z] w fun e w' => ∃ (s : Int) (l : List S_impl_Clue) (ok : Bool) (A : Option Addr) (c : Nat), e = .returned (.tuple #[.agg #[.int .i64 s, .slice A l.length c], .bool ok]) ∧ Kd.R kd_impl_Clue 48 w' w.heap.size (fun _ => True) (.slice A l.length c) l ∧ l.length ≤ 6 ∧ Below w.heap.size w w'
/-- The reference's clue of a kind, of pegs near by. -/
structure PZS : Prop where
  run : ∀ (kind x y px py : Int) (w : World), 0 ≤ kind ∧ kind ≤ 5 → 0 ≤ x ∧ x ≤ 100 → 0 ≤ y ∧ y ≤ 100 → 0 ≤ px ∧ px ≤ 100 → 0 ≤ py ∧ py ≤ 100 → Calls Try.prog 61 #[.int .i64 kind, .agg #[.int .i64 x, .int .i64 y], .agg #[.int .i64 px, .int .i64 py]] w fun e w' => ∃ q0 q1 q2 q3 : Int, e = .returned (.agg #[.int .i64 q0, .int .i64 q1, .int .i64 q2, .int .i64 q3]) ∧ Below w.heap.size w w'
set_option maxHeartbeats 4000000 in
set_option maxRecDepth 100000 in
theorem pick_c {W0 wS : World} {f0 : List Int} {gc : Nat} {n : Int} {cs : List Value} (h : CP W0 f0 gc n cs wS) (hn : 0 ≤ n ∧ n ≤ 1099511627766) (v : Int) : Calls Try.prog 52 #[.pointer (some ⟨gc, 0, none⟩), .int .i64 v] wS fun e w' => ∃ (r : Int) (n' : Int) (cs' : List Value), e = .returned (.int .i64 r) ∧ (0 ≤ r ∧ (r < v ∨ r = 0) ∧ n ≤ n' ∧ n' ≤ n + 2) ∧ CC W0 f0 gc n 2 n' cs' wS w' := by
  refine Ex.start (N := 20) [.pointer (some ⟨gc, 0, none⟩), .int .i64 v] Try.func52 rfl (by kernel_rfl) (by simp) fun a HF => ?_
  have hU := h.cu
  have HM := h.me
  by_cases hv : v ≤ 1
  · (repeat (first | (refine sA HF ?_; clear HF a; intro a HF) | (refine sB HF HM ?_; clear HF a; intro a HF) | (refine aA HF HM ?_; clear HF HM a; intro g a w HF HM) | (refine so HF HM ?_; clear HM; intro w HM) | refine gy HF ?_ | ((first | refine gn HF ?_ | refine gu HF ?_); clear HF a; intro a HF) | refine rn ?_ | refine rg ?_))
    refine sq (rg ?_)
    (repeat (first | (refine sA HF ?_; clear HF a; intro a HF) | (refine sB HF HM ?_; clear HF a; intro a HF) | (refine aA HF HM ?_; clear HF HM a; intro g a w HF HM) | (refine so HF HM ?_; clear HM; intro w HM) | refine gy HF ?_ | ((first | refine gn HF ?_ | refine gu HF ?_); clear HF a; intro a HF) | refine rn ?_ | refine rg ?_))
    refine cT HF ?_
    (repeat (first | (refine sA HF ?_; clear HF a; intro a HF) | (refine sB HF HM ?_; clear HF a; intro a HF) | (refine aA HF HM ?_; clear HF HM a; intro g a w HF HM) | (refine so HF HM ?_; clear HM; intro w HM) | refine gy HF ?_ | ((first | refine gn HF ?_ | refine gu HF ?_); clear HF a; intro a HF) | refine rn ?_ | refine rg ?_))
    refine rt ?_; (repeat (first | refine tr ?_ | refine tb ?_)); exact rt1 HF rfl rfl ⟨_, _, _, rfl, ⟨by omega, by omega, by omega, by omega⟩, ccM HM hU⟩
  · (repeat (first | (refine sA HF ?_; clear HF a; intro a HF) | (refine sB HF HM ?_; clear HF a; intro a HF) | (refine aA HF HM ?_; clear HF HM a; intro g a w HF HM) | (refine so HF HM ?_; clear HM; intro w HM) | refine gy HF ?_ | ((first | refine gn HF ?_ | refine gu HF ?_); clear HF a; intro a HF) | refine rn ?_ | refine rg ?_))
    refine sq (rg ?_)
    (repeat (first | (refine sA HF ?_; clear HF a; intro a HF) | (refine sB HF HM ?_; clear HF a; intro a HF) | (refine aA HF HM ?_; clear HF HM a; intro g a w HF HM) | (refine so HF HM ?_; clear HM; intro w HM) | refine gy HF ?_ | ((first | refine gn HF ?_ | refine gu HF ?_); clear HF a; intro a HF) | refine rn ?_ | refine rg ?_))
    refine cF HF (sk ?_)
    (repeat (first | (refine cl (f := 88) HF Try.func88 (by kernel_rfl) ?_; (with_reducible refine (next_c (cpM HM hU) (by omega)).mono ?_); rintro e w1 ⟨r1, nn, cs1, rfl, hr_, hC⟩; refine ⟨_, rfl, ?_⟩; replace HM := cuM HM hC; have hU := hC.cu; clear HF a; intro a HF) | (refine sA HF ?_; clear HF a; intro a HF) | (refine sB HF HM ?_; clear HF a; intro a HF) | (refine aA HF HM ?_; clear HF HM a; intro g a w HF HM) | (refine so HF HM ?_; clear HM; intro w HM) | refine gy HF ?_ | ((first | refine gn HF ?_ | refine gu HF ?_); clear HF a; intro a HF) | refine rn ?_ | refine rg ?_))
    refine sq (rg ?_)
    by_cases h2 : 200 < v
    · (repeat (first | (refine sA HF ?_; clear HF a; intro a HF) | (refine sB HF HM ?_; clear HF a; intro a HF) | (refine aA HF HM ?_; clear HF HM a; intro g a w HF HM) | (refine so HF HM ?_; clear HM; intro w HM) | refine gy HF ?_ | ((first | refine gn HF ?_ | refine gu HF ?_); clear HF a; intro a HF) | refine rn ?_ | refine rg ?_))
      refine cT HF (rl ?_)
      (repeat (first | (refine cl (f := 88) HF Try.func88 (by kernel_rfl) ?_; (with_reducible refine (next_c (cpM HM hU) (by omega)).mono ?_); rintro e w1 ⟨r2, nn, cs1, rfl, hr_, hC⟩; refine ⟨_, rfl, ?_⟩; replace HM := cuM HM hC; have hU := hC.cu; clear HF a; intro a HF) | (refine sA HF ?_; clear HF a; intro a HF) | (refine sB HF HM ?_; clear HF a; intro a HF) | (refine aA HF HM ?_; clear HF HM a; intro g a w HF HM) | (refine so HF HM ?_; clear HM; intro w HM) | refine gy HF ?_ | ((first | refine gn HF ?_ | refine gu HF ?_); clear HF a; intro a HF) | refine rn ?_ | refine rg ?_))
      have hx : 0 ≤ IntKind.i64.wrap (IntKind.i64.wrap (r1 * 256) + r2) := by rw [wr (x := r1 * 256), wr]; omega
      have ht := tm hx (show 1 < v by omega)
      refine rt ?_; (repeat (first | refine tr ?_ | refine tb ?_)); exact rt1 HF rfl rfl ⟨_, _, _, rfl, ⟨ht.1, ht.2, by omega, by omega⟩, ccM HM hU⟩
    · (repeat (first | (refine sA HF ?_; clear HF a; intro a HF) | (refine sB HF HM ?_; clear HF a; intro a HF) | (refine aA HF HM ?_; clear HF HM a; intro g a w HF HM) | (refine so HF HM ?_; clear HM; intro w HM) | refine gy HF ?_ | ((first | refine gn HF ?_ | refine gu HF ?_); clear HF a; intro a HF) | refine rn ?_ | refine rg ?_))
      refine cF HF (sk ?_)
      (repeat (first | (refine sA HF ?_; clear HF a; intro a HF) | (refine sB HF HM ?_; clear HF a; intro a HF) | (refine aA HF HM ?_; clear HF HM a; intro g a w HF HM) | (refine so HF HM ?_; clear HM; intro w HM) | refine gy HF ?_ | ((first | refine gn HF ?_ | refine gu HF ?_); clear HF a; intro a HF) | refine rn ?_ | refine rg ?_))
      have ht := tm (x := r1) (by omega) (show 1 < v by omega)
      refine rt ?_; (repeat (first | refine tr ?_ | refine tb ?_)); exact rt1 HF rfl rfl ⟨_, _, _, rfl, ⟨ht.1, ht.2, by omega, by omega⟩, ccM HM hU⟩
set_option maxHeartbeats 4000000 in
set_option maxRecDepth 100000 in
theorem one_c {W0 wS : World} {f0 : List Int} {gc : Nat} {n : Int} {cs : List Value} (h : CP W0 f0 gc n cs wS) (hn : 0 ≤ n ∧ n ≤ 1099511627756) (v : Int) : Calls Try.prog 49 #[.pointer (some ⟨gc, 0, none⟩), .int .i64 v] wS fun e w' => ∃ (b : Bool) (n' : Int) (cs' : List Value), e = .returned (.bool b) ∧ (n ≤ n' ∧ n' ≤ n + 2) ∧ CC W0 f0 gc n 2 n' cs' wS w' := by
  refine Ex.start (N := 9) [.pointer (some ⟨gc, 0, none⟩), .int .i64 v] Try.func49 rfl (by kernel_rfl) (by simp) fun a HF => ?_
  have hU := h.cu
  have HM := h.me
  (repeat (first | (refine cl (f := 52) HF Try.func52 (by kernel_rfl) ?_; (with_reducible refine (pick_c (cpM HM hU) (by omega) _).mono ?_); rintro e w1 ⟨r, nn, cs1, rfl, hr_, hC⟩; refine ⟨_, rfl, ?_⟩; replace HM := cuM HM hC; have hU := hC.cu; clear HF a; intro a HF) | (refine sA HF ?_; clear HF a; intro a HF) | (refine sB HF HM ?_; clear HF a; intro a HF) | (refine aA HF HM ?_; clear HF HM a; intro g a w HF HM) | (refine so HF HM ?_; clear HM; intro w HM) | refine gy HF ?_ | ((first | refine gn HF ?_ | refine gu HF ?_); clear HF a; intro a HF) | refine rn ?_ | refine rg ?_))
  refine rt ?_; (repeat (first | refine tr ?_ | refine tb ?_)); exact rt1 HF rfl rfl ⟨_, _, _, rfl, ⟨by omega, by omega⟩, ccM HM hU⟩
set_option maxHeartbeats 4000000 in
set_option maxRecDepth 100000 in
theorem surePeg_c {W0 wS : World} {f0 : List Int} {gc : Nat} {n : Int} {cs : List Value} (h : CP W0 f0 gc n cs wS) (hn : 0 ≤ n ∧ n ≤ 1099511627756) (v : Int) : Calls Try.prog 87 #[.pointer (some ⟨gc, 0, none⟩), .int .i64 v] wS fun e w' => ∃ (x y : Int) (n' : Int) (cs' : List Value), e = .returned (.agg #[.int .i64 x, .int .i64 y]) ∧ (n ≤ n' ∧ n' ≤ n + 4) ∧ CC W0 f0 gc n 4 n' cs' wS w' := by
  refine Ex.start (N := 20) [.pointer (some ⟨gc, 0, none⟩), .int .i64 v] Try.func87 rfl (by kernel_rfl) (by simp) fun a HF => ?_
  have hU := h.cu
  have HM := h.me
  (repeat (first | (refine cl (f := 52) HF Try.func52 (by kernel_rfl) ?_; (with_reducible refine (pick_c (cpM HM hU) (by omega) _).mono ?_); rintro e w1 ⟨r, nn, cs1, rfl, hr_, hC⟩; refine ⟨_, rfl, ?_⟩; replace HM := cuM HM hC; have hU := hC.cu; clear HF a; intro a HF) | (refine sA HF ?_; clear HF a; intro a HF) | (refine sB HF HM ?_; clear HF a; intro a HF) | (refine aA HF HM ?_; clear HF HM a; intro g a w HF HM) | (refine so HF HM ?_; clear HM; intro w HM) | refine gy HF ?_ | ((first | refine gn HF ?_ | refine gu HF ?_); clear HF a; intro a HF) | refine rn ?_ | refine rg ?_))
  refine rt ?_; (repeat (first | refine tr ?_ | refine tb ?_)); exact rS HF rfl (vc st41 HF HM .nil) ⟨_, _, _, _, rfl, ⟨by omega, by omega⟩, ccM HM hU⟩
set_option maxHeartbeats 4000000 in
set_option maxRecDepth 100000 in
theorem among_c {W0 wS : World} {f0 : List Int} {gc : Nat} {n : Int} {cs : List Value} (h : CP W0 f0 gc n cs wS) (hn : 0 ≤ n ∧ n ≤ 1099511627756) {ad : Addr} {c1 : Nat} {l1 : List Int} (hr : Kd.C (Kd.int .i64) wS (some ad) l1.length l1) (hne : ad.block ≠ gc) (hl : 0 < l1.length) : Calls Try.prog 50 #[.pointer (some ⟨gc, 0, none⟩), .slice (some ad) l1.length c1] wS fun e w' => ∃ (r : Int) (n' : Int) (cs' : List Value), e = .returned (.int .i64 r) ∧ (n ≤ n' ∧ n' ≤ n + 2) ∧ CC W0 f0 gc n 2 n' cs' wS w' := by
  refine Ex.start (N := 12) [.pointer (some ⟨gc, 0, none⟩), .slice (some ad) l1.length c1] Try.func50 rfl (by kernel_rfl) (by simp) fun a HF => ?_
  have hU := h.cu
  have HM := h.me
  (repeat (first | (refine cl (f := 52) HF Try.func52 (by kernel_rfl) ?_; (with_reducible refine (pick_c (cpM HM hU) (by omega) _).mono ?_); rintro e w1 ⟨r, nn, cs1, rfl, hr_, hC⟩; refine ⟨_, rfl, ?_⟩; replace HM := cuM HM hC; have hU := hC.cu; clear HF a; intro a HF) | (refine sA HF ?_; clear HF a; intro a HF) | (refine sB HF HM ?_; clear HF a; intro a HF) | (refine aA HF HM ?_; clear HF HM a; intro g a w HF HM) | (refine so HF HM ?_; clear HM; intro w HM) | refine gy HF ?_ | ((first | refine gn HF ?_ | refine gu HF ?_); clear HF a; intro a HF) | refine rn ?_ | refine rg ?_))
  refine lc sc3 (keepInt hr hC.keep hne r (by omega) (by omega)) HF ?_; clear HF a; intro a HF
  (repeat (first | (refine sA HF ?_; clear HF a; intro a HF) | (refine sB HF HM ?_; clear HF a; intro a HF) | (refine aA HF HM ?_; clear HF HM a; intro g a w HF HM) | (refine so HF HM ?_; clear HM; intro w HM) | refine gy HF ?_ | ((first | refine gn HF ?_ | refine gu HF ?_); clear HF a; intro a HF) | refine rn ?_ | refine rg ?_))
  refine rt ?_; (repeat (first | refine tr ?_ | refine tb ?_)); exact rt1 HF rfl rfl ⟨_, _, _, rfl, ⟨by omega, by omega⟩, ccM HM hU⟩
set_option maxHeartbeats 4000000 in
set_option maxRecDepth 100000 in
theorem peg_c {W0 wS : World} {f0 : List Int} {gc : Nat} {n : Int} {cs : List Value} (h : CP W0 f0 gc n cs wS) (hn : 0 ≤ n ∧ n ≤ 1099511627676) : Calls Try.prog 51 #[.pointer (some ⟨gc, 0, none⟩)] wS fun e w' => ∃ (x y : Int) (n' : Int) (cs' : List Value), e = .returned (.agg #[.int .i64 x, .int .i64 y]) ∧ (n ≤ n' ∧ n' ≤ n + 6) ∧ CC W0 f0 gc n 6 n' cs' wS w' := by
  refine Ex.start (N := 14) [.pointer (some ⟨gc, 0, none⟩)] Try.func51 rfl (by kernel_rfl) (by simp) fun a HF => ?_
  have hU := h.cu
  have HM := h.me
  (repeat (first | (refine sA HF ?_; clear HF a; intro a HF) | (refine sB HF HM ?_; clear HF a; intro a HF) | (refine aA HF HM ?_; clear HF HM a; intro g a w HF HM) | (refine so HF HM ?_; clear HM; intro w HM) | refine gy HF ?_ | ((first | refine gn HF ?_ | refine gu HF ?_); clear HF a; intro a HF) | refine rn ?_ | refine rg ?_))
  refine sq (rg ?_)
  (repeat (first | (refine cl (f := 49) HF Try.func49 (by kernel_rfl) ?_; (with_reducible refine (one_c (cpM HM hU) (by omega) _).mono ?_); rintro e w1 ⟨b, nn, cs1, rfl, hr_, hC⟩; refine ⟨_, rfl, ?_⟩; replace HM := cuM HM hC; have hU := hC.cu; clear HF a; intro a HF) | (refine sA HF ?_; clear HF a; intro a HF) | (refine sB HF HM ?_; clear HF a; intro a HF) | (refine aA HF HM ?_; clear HF HM a; intro g a w HF HM) | (refine so HF HM ?_; clear HM; intro w HM) | refine gy HF ?_ | ((first | refine gn HF ?_ | refine gu HF ?_); clear HF a; intro a HF) | refine rn ?_ | refine rg ?_))
  refine cB HF (rg ?_) (sk ?_)
  all_goals
    (repeat (first | ((first | refine li (lz3 _ _ _) HF HM ?_ | refine li (lz4 _ _ _ _) HF HM ?_ | refine li (lz5 _ _ _ _ _) HF HM ?_ | refine li (lz7 _ _ _ _ _ _ _) HF HM ?_ | refine li (lz8 _ _ _ _ _ _ _ _) HF HM ?_); clear HF HM a; intro Al cl_ a w HF HM) | (refine cl (f := 50) HF Try.func50 (by kernel_rfl) ?_; (with_reducible refine (among_c (cpM HM hU) (by omega) HM.C1 (blkne HM (g := _) (t := 80)) (by simp)).mono ?_); rintro e w1 ⟨r, nn, cs1, rfl, hr_, hC⟩; refine ⟨_, rfl, ?_⟩; replace HM := cuM HM hC; have hU := hC.cu; clear HF a; intro a HF) | (refine cl (f := 87) HF Try.func87 (by kernel_rfl) ?_; (with_reducible refine (surePeg_c (cpM HM hU) (by omega) _).mono ?_); rintro e w1 ⟨x, y, nn, cs1, rfl, hr_, hC⟩; refine ⟨_, rfl, ?_⟩; replace HM := cuM HM hC; have hU := hC.cu; clear HF a; intro a HF) | (refine sA HF ?_; clear HF a; intro a HF) | (refine sB HF HM ?_; clear HF a; intro a HF) | (refine aA HF HM ?_; clear HF HM a; intro g a w HF HM) | (refine so HF HM ?_; clear HM; intro w HM) | refine gy HF ?_ | ((first | refine gn HF ?_ | refine gu HF ?_); clear HF a; intro a HF) | refine rn ?_ | refine rg ?_))
    refine rt ?_; (repeat (first | refine tr ?_ | refine tb ?_)); exact rS HF rfl (vc st41 HF HM .nil) ⟨_, _, _, _, rfl, ⟨by omega, by omega⟩, ccM HM hU⟩
set_option maxHeartbeats 4000000 in
set_option maxRecDepth 100000 in
theorem clue_c {W0 wS : World} {f0 : List Int} {gc : Nat} {n : Int} {cs : List Value} (h : CP W0 f0 gc n cs wS) (hn : 0 ≤ n ∧ n ≤ 1099511627676) : Calls Try.prog 74 #[.pointer (some ⟨gc, 0, none⟩)] wS fun e w' => ∃ (q0 q1 q2 q3 : Int) (n' : Int) (cs' : List Value), e = .returned (.agg #[.int .i64 q0, .int .i64 q1, .int .i64 q2, .int .i64 q3]) ∧ (n ≤ n' ∧ n' ≤ n + 20) ∧ CC W0 f0 gc n 20 n' cs' wS w' := by
  refine Ex.start (N := 38) [.pointer (some ⟨gc, 0, none⟩)] Try.func74 rfl (by kernel_rfl) (by simp) fun a HF => ?_
  have hU := h.cu
  have HM := h.me
  (repeat (first | (refine cl (f := 52) HF Try.func52 (by kernel_rfl) ?_; (with_reducible refine (pick_c (cpM HM hU) (by omega) _).mono ?_); rintro e w1 ⟨r, nn, cs1, rfl, hr_, hC⟩; refine ⟨_, rfl, ?_⟩; replace HM := cuM HM hC; have hU := hC.cu; clear HF a; intro a HF) | (refine sA HF ?_; clear HF a; intro a HF) | (refine sB HF HM ?_; clear HF a; intro a HF) | (refine aA HF HM ?_; clear HF HM a; intro g a w HF HM) | (refine so HF HM ?_; clear HM; intro w HM) | refine gy HF ?_ | ((first | refine gn HF ?_ | refine gu HF ?_); clear HF a; intro a HF) | refine rn ?_ | refine rg ?_))
  refine sq (rg ?_)
  (repeat (first | (refine sA HF ?_; clear HF a; intro a HF) | (refine sB HF HM ?_; clear HF a; intro a HF) | (refine aA HF HM ?_; clear HF HM a; intro g a w HF HM) | (refine so HF HM ?_; clear HM; intro w HM) | refine gy HF ?_ | ((first | refine gn HF ?_ | refine gu HF ?_); clear HF a; intro a HF) | refine rn ?_ | refine rg ?_))
  refine cmpX HF ?_; clear HF a; rintro (_ | _) a HF
  all_goals
    (repeat (first | (refine cl (f := 49) HF Try.func49 (by kernel_rfl) ?_; (with_reducible refine (one_c (cpM HM hU) (by omega) _).mono ?_); rintro e w1 ⟨b, nn, cs1, rfl, hr_, hC⟩; refine ⟨_, rfl, ?_⟩; replace HM := cuM HM hC; have hU := hC.cu; clear HF a; intro a HF) | (refine sA HF ?_; clear HF a; intro a HF) | (refine sB HF HM ?_; clear HF a; intro a HF) | (refine aA HF HM ?_; clear HF HM a; intro g a w HF HM) | (refine so HF HM ?_; clear HM; intro w HM) | refine gy HF ?_ | ((first | refine gn HF ?_ | refine gu HF ?_); clear HF a; intro a HF) | refine rn ?_ | refine rg ?_))
    refine cB HF (rg ?_) (sk ?_)
  all_goals
    (repeat (first | (refine cl (f := 52) HF Try.func52 (by kernel_rfl) ?_; (with_reducible refine (pick_c (cpM HM hU) (by omega) _).mono ?_); rintro e w1 ⟨r, nn, cs1, rfl, hr_, hC⟩; refine ⟨_, rfl, ?_⟩; replace HM := cuM HM hC; have hU := hC.cu; clear HF a; intro a HF) | (refine sA HF ?_; clear HF a; intro a HF) | (refine sB HF HM ?_; clear HF a; intro a HF) | (refine aA HF HM ?_; clear HF HM a; intro g a w HF HM) | (refine so HF HM ?_; clear HM; intro w HM) | refine gy HF ?_ | ((first | refine gn HF ?_ | refine gu HF ?_); clear HF a; intro a HF) | refine rn ?_ | refine rg ?_ | refine rl ?_))
    refine rt ?_; (repeat (first | refine tr ?_ | refine tb ?_)); exact rS HF rfl (vc st48 HF HM .nil) ⟨_, _, _, _, _, _, rfl, ⟨by omega, by omega⟩, ccM HM hU⟩
set_option maxHeartbeats 4000000 in
set_option maxRecDepth 100000 in
theorem surePuzzle_c {W0 wS : World} {f0 : List Int} {gc : Nat} {n : Int} {cs : List Value} (h : CP W0 f0 gc n cs wS) (hn : 0 ≤ n ∧ n ≤ 1099511627676) (mk : MKS) (v : Int) : Calls Try.prog 96 #[.pointer (some ⟨gc, 0, none⟩), .int .i64 v] wS fun e w' => ∃ (s : Int) (A : Option Addr) (c' : Nat) (l : List S_impl_Clue) (n' : Int) (cs' : List Value), e = .returned (.agg #[.int .i64 s, .slice A l.length c']) ∧ (Kd.R kd_impl_Clue 48 w' wS.heap.size (fun _ => True) (.slice A l.length c') l ∧ l.length ≤ 6 ∧ n ≤ n' ∧ n' ≤ n + 10) ∧ CC W0 f0 gc n 10 n' cs' wS w' := by
  refine Ex.start (N := 32) [.pointer (some ⟨gc, 0, none⟩), .int .i64 v] Try.func96 rfl (by kernel_rfl) (by simp) fun a HF => ?_
  have hU := h.cu
  have HM := h.me
  (repeat (first | (refine cl (f := 52) HF Try.func52 (by kernel_rfl) ?_; (with_reducible refine (pick_c (cpM HM hU) (by omega) _).mono ?_); rintro e w1 ⟨r, nn, cs1, rfl, hr_, hC⟩; refine ⟨_, rfl, ?_⟩; replace HM := cuM HM hC; have hU := hC.cu; clear HF a; intro a HF) | (refine cl (f := 17) HF Try.func17 (by kernel_rfl) ?_; (with_reducible refine (mk.run _ _ _ _ _ _).mono ?_); rintro e w1 ⟨s, l, ok, Al, cl_, rfl, hR_, hl_, hb_⟩; refine ⟨_, rfl, ?_⟩; replace HM := HM.row hR_ hb_; clear HF a; intro a HF) | (refine sA HF ?_; clear HF a; intro a HF) | (refine sB HF HM ?_; clear HF a; intro a HF) | (refine aA HF HM ?_; clear HF HM a; intro g a w HF HM) | (refine so HF HM ?_; clear HM; intro w HM) | refine gy HF ?_ | ((first | refine gn HF ?_ | refine gu HF ?_); clear HF a; intro a HF) | refine rn ?_ | refine rg ?_))
  refine rt ?_; (repeat (first | refine tr ?_ | refine tb ?_)); exact rS HF rfl (vc st31 HF HM .nil) ⟨_, _, _, _, _, _, rfl, ⟨HM.R_ 0, by omega, by omega, by omega⟩, ccM HM hU⟩
def puz.T6 : Bool × List (List Nat × List Nat) := (true, [([], []), ([0], [0]), ([], []), ([2], [2]), ([3], [3]), ([1, 4, 3], [1, 4]), ([0, 1, 2, 3, 4, 5], []), ([6, 5, 5, 0, 1, 2, 3, 4, 5], [5, 6])])
def puz.B6 : List Nat := [0, 1, 0, 4, 12, 31, 63, 127]
theorem puz.tab6 : rtab .any (opsOf Try.f66 6) = puz.T6 := by kernel_rfl
theorem puz.bits6 : waitsOk puz.T6.2 puz.B6 = true := by kernel_rfl
def puz.T8 : Bool × List (List Nat × List Nat) := (true, [([], []), ([0], [0]), ([1], [1]), ([], []), ([3], [3]), ([4], [4]), ([2, 5], [2, 5])])
def puz.B8 : List Nat := [0, 1, 3, 0, 8, 24, 63]
theorem puz.tab8 : rtab .any (opsOf Try.f66 8) = puz.T8 := by kernel_rfl
theorem puz.bits8 : waitsOk puz.T8.2 puz.B8 = true := by kernel_rfl

set_option maxHeartbeats 4000000 in
set_option maxRecDepth 100000 in
theorem puzzle_c {W0 wS : World} {f0 : List Int} {gc : Nat} {n : Int} {cs : List Value} (h : CP W0 f0 gc n cs wS) (hn : 0 ≤ n ∧ n ≤ 1099511626776) (mk : MKS) : Calls Try.prog 66 #[.pointer (some ⟨gc, 0, none⟩)] wS fun e w' => ∃ (s : Int) (A : Option Addr) (c' : Nat) (l : List S_impl_Clue) (n' : Int) (cs' : List Value), e = .returned (.agg #[.int .i64 s, .slice A l.length c']) ∧ (Kd.R kd_impl_Clue 48 w' wS.heap.size (fun _ => True) (.slice A l.length c') l ∧ l.length ≤ 7 ∧ n ≤ n' ∧ n' ≤ n + 100) ∧ CC W0 f0 gc n 100 n' cs' wS w' := by
  refine Ex.start (N := 39) [.pointer (some ⟨gc, 0, none⟩)] Try.func66 rfl (by kernel_rfl) (by simp) fun a HF => ?_
  have hU := h.cu
  have HM := h.me
  (repeat (first | (refine cl (f := 96) HF Try.func96 (by kernel_rfl) ?_; (with_reducible refine (surePuzzle_c (cpM HM hU) (by omega) mk _).mono ?_); rintro e w1 ⟨s, Al, cl_, l, nn, cs1, rfl, ⟨hR_, hl_, hr_⟩, hC⟩; refine ⟨_, rfl, ?_⟩; replace HM := cuRow HM hC hR_; have hU := hC.cu; clear HF a; intro a HF) | (refine sA HF ?_; clear HF a; intro a HF) | (refine sB HF HM ?_; clear HF a; intro a HF) | (refine aA HF HM ?_; clear HF HM a; intro g a w HF HM) | (refine so HF HM ?_; clear HM; intro w HM) | refine gy HF ?_ | ((first | refine gn HF ?_ | refine gu HF ?_); clear HF a; intro a HF) | refine rn ?_ | refine rg ?_))
  refine cx (fun a w => ∃ (g2 g3 : Nat) (s : Int) (A : Option Addr) (c : Nat) (l : List S_impl_Clue) (n1 : Int) (cs1 : List Value), Fr 39 a [(2, .pointer (some ⟨g2, 0, none⟩)), (3, .pointer (some ⟨g3, 0, none⟩)), (0, .pointer (some ⟨gc, 0, none⟩))] ∧ Me W0 wS (some gc) w [⟨g3, 31, [.int .i64 s, .slice A l.length c]⟩, ⟨g2, 31, [.int .i64 0, .slice none 0 0]⟩, ⟨gc, 80, cs1⟩] [⟨kd_impl_Clue, 48, .slice A l.length c, l⟩] ∧ CU W0 f0 n1 cs1 ∧ n ≤ n1 ∧ n1 ≤ n + 100 ∧ l.length ≤ 7) (fun K hK => ?_) ?_
  · refine rg ?_
    (repeat (first | (refine cl (f := 52) HF Try.func52 (by kernel_rfl) ?_; (with_reducible refine (pick_c (cpM HM hU) (by omega) _).mono ?_); rintro e w1 ⟨r, nn, cs1, rfl, hr_, hC⟩; refine ⟨_, rfl, ?_⟩; replace HM := cuM HM hC; have hU := hC.cu; clear HF a; intro a HF) | (refine sA HF ?_; clear HF a; intro a HF) | (refine sB HF HM ?_; clear HF a; intro a HF) | (refine aA HF HM ?_; clear HF HM a; intro g a w HF HM) | (refine so HF HM ?_; clear HM; intro w HM) | refine gy HF ?_ | ((first | refine gn HF ?_ | refine gu HF ?_); clear HF a; intro a HF) | refine rn ?_ | refine rg ?_))
    refine bk (rg ?_)
    (repeat (first | (refine sA HF ?_; clear HF a; intro a HF) | (refine sB HF HM ?_; clear HF a; intro a HF) | (refine aA HF HM ?_; clear HF HM a; intro g a w HF HM) | (refine so HF HM ?_; clear HM; intro w HM) | refine gy HF ?_ | ((first | refine gn HF ?_ | refine gu HF ?_); clear HF a; intro a HF) | refine rn ?_ | refine rg ?_))
    refine cB HF (rl ?_) (rg ?_)
    · (repeat (first | ((first | refine li (lz3 _ _ _) HF HM ?_ | refine li (lz4 _ _ _ _) HF HM ?_ | refine li (lz5 _ _ _ _ _) HF HM ?_ | refine li (lz7 _ _ _ _ _ _ _) HF HM ?_ | refine li (lz8 _ _ _ _ _ _ _ _) HF HM ?_); clear HF HM a; intro Al cl_ a w HF HM) | (refine cl (f := 50) HF Try.func50 (by kernel_rfl) ?_; (with_reducible refine (among_c (cpM HM hU) (by omega) HM.C1 (blkne HM (g := _) (t := 80)) (by simp)).mono ?_); rintro e w1 ⟨r, nn, cs1, rfl, hr_, hC⟩; refine ⟨_, rfl, ?_⟩; replace HM := cuM HM hC; have hU := hC.cu; clear HF a; intro a HF) | (refine sA HF ?_; clear HF a; intro a HF) | (refine sB HF HM ?_; clear HF a; intro a HF) | (refine aA HF HM ?_; clear HF HM a; intro g a w HF HM) | (refine so HF HM ?_; clear HM; intro w HM) | refine gy HF ?_ | ((first | refine gn HF ?_ | refine gu HF ?_); clear HF a; intro a HF)))
      exact nl (hK _ _ ⟨_, _, _, _, _, _, _, _, HF.sub, HM.sub (by repeat (first | exact List.Sublist.refl _ | exact List.nil_sublist _ | apply List.Sublist.cons_cons | apply List.Sublist.cons)) (by repeat (first | exact List.Sublist.refl _ | exact List.nil_sublist _ | apply List.Sublist.cons_cons | apply List.Sublist.cons)), hU, by omega, by omega, by omega⟩)
    · (repeat (first | (refine sA HF ?_; clear HF a; intro a HF) | (refine sB HF HM ?_; clear HF a; intro a HF) | (refine aA HF HM ?_; clear HF HM a; intro g a w HF HM) | (refine so HF HM ?_; clear HM; intro w HM) | refine gy HF ?_ | ((first | refine gn HF ?_ | refine gu HF ?_); clear HF a; intro a HF) | refine rn ?_ | refine rg ?_))
      refine cB HF ?_ (rg ?_)
      · refine dw2l (n := 8) (ds := [7]) (bs' := [⟨_, 31, [.int .i64 s, .slice Al l.length cl_]⟩]) (rs' := []) puz.tab6 puz.bits6 HM (by repeat (first | exact List.Sublist.refl _ | exact List.nil_sublist _ | apply List.Sublist.cons_cons | apply List.Sublist.cons)) (by repeat (first | exact List.Sublist.refl _ | exact List.nil_sublist _ | apply List.Sublist.cons_cons | apply List.Sublist.cons)) ?_; clear HM; intro w HM HT HW; have HS := HM.sub (bs' := [⟨_, 31, [.int .i64 s, .slice Al l.length cl_]⟩]) (rs' := []) (by repeat (first | exact List.Sublist.refl _ | exact List.nil_sublist _ | apply List.Sublist.cons_cons | apply List.Sublist.cons)) (by repeat (first | exact List.Sublist.refl _ | exact List.nil_sublist _ | apply List.Sublist.cons_cons | apply List.Sublist.cons))
        refine pA 0 1 HT rfl HF ?_; clear HF a; intro a HF
        refine pB 1 3 HT rfl HW HF HS ?_; clear HF a; intro a HF
        refine pA 2 7 HT rfl HF ?_; clear HF a; intro a HF
        refine r1_ 3 15 HT (fun K_ hK_ => ?_); refine kc HF g0 Try.func74 (by kernel_rfl) ?_; (with_reducible refine (clue_c (cpM HM hU) (by omega)).mono ?_); rintro e w1 ⟨q0, q1, q2, q3, nn, cs1, rfl, hr_, hC⟩; refine ⟨_, rfl, ?_⟩; replace HM := cuM HM hC; have hU := hC.cu; clear HF a; intro a HF; refine hK_ _ _ (HM.sub (by repeat (first | exact List.Sublist.refl _ | exact List.nil_sublist _ | apply List.Sublist.cons_cons | apply List.Sublist.cons)) (by repeat (first | exact List.Sublist.refl _ | exact List.nil_sublist _ | apply List.Sublist.cons_cons | apply List.Sublist.cons))) ?_; clear hK_ K_ HS; intro HS
        refine r1_ 4 31 HT (fun K_ hK_ => ?_); refine kl (lzC1 _ _ _ _) HF HM ?_; clear HF HM a; intro Al cl_ a w HF HM; refine hK_ _ _ (HM.sub (by repeat (first | exact List.Sublist.refl _ | exact List.nil_sublist _ | apply List.Sublist.cons_cons | apply List.Sublist.cons)) (by repeat (first | exact List.Sublist.refl _ | exact List.nil_sublist _ | apply List.Sublist.cons_cons | apply List.Sublist.cons))) ?_; clear hK_ K_ HS; intro HS
        refine r1_ 5 63 HT (fun K_ hK_ => ?_); refine kar apC HF HM ?_ (hl := by (simp only [List.length_append, List.length_cons, List.length_nil]; omega)); clear HF HM a; intro Al cl_ a w HF HM; refine hK_ _ _ (HM.sub (by repeat (first | exact List.Sublist.refl _ | exact List.nil_sublist _ | apply List.Sublist.cons_cons | apply List.Sublist.cons)) (by repeat (first | exact List.Sublist.refl _ | exact List.nil_sublist _ | apply List.Sublist.cons_cons | apply List.Sublist.cons))) ?_; clear hK_ K_ HS; intro HS
        refine pA 6 127 HT rfl HF ?_; clear HF a; intro a HF
        refine r1l_ 7 255 HT (fun K_ hK_ => ?_); refine ks HF HM ?_; clear HM; intro w HM; refine hK_ _ _ ?_; clear hK_ K_ HS
        refine dn HT ?_
        exact hK _ _ ⟨_, _, _, _, _, _, _, _, HF.sub, HM.sub (by repeat (first | exact List.Sublist.refl _ | exact List.nil_sublist _ | apply List.Sublist.cons_cons | apply List.Sublist.cons)) (by repeat (first | exact List.Sublist.refl _ | exact List.nil_sublist _ | apply List.Sublist.cons_cons | apply List.Sublist.cons)), hU, by omega, by omega, (by first | omega | (simp only [List.length_append, List.length_cons, List.length_nil]; omega))⟩
      · (repeat (first | (refine sA HF ?_; clear HF a; intro a HF) | (refine sB HF HM ?_; clear HF a; intro a HF) | (refine aA HF HM ?_; clear HF HM a; intro g a w HF HM) | (refine so HF HM ?_; clear HM; intro w HM) | refine gy HF ?_ | ((first | refine gn HF ?_ | refine gu HF ?_); clear HF a; intro a HF) | refine rn ?_ | refine rg ?_))
        refine cB HF (bk ?_) (sk0 (hK _ _ ⟨_, _, _, _, _, _, _, _, HF.sub, HM.sub (by repeat (first | exact List.Sublist.refl _ | exact List.nil_sublist _ | apply List.Sublist.cons_cons | apply List.Sublist.cons)) (by repeat (first | exact List.Sublist.refl _ | exact List.nil_sublist _ | apply List.Sublist.cons_cons | apply List.Sublist.cons)), hU, by omega, by omega, by omega⟩))
        refine lp (fun m a w => ∃ (g2 g3 : Nat) (s : Int) (A : Option Addr) (c : Nat) (l : List S_impl_Clue) (n1 : Int) (cs1 : List Value), Fr 39 a [(2, .pointer (some ⟨g2, 0, none⟩)), (3, .pointer (some ⟨g3, 0, none⟩)), (0, .pointer (some ⟨gc, 0, none⟩))] ∧ Me W0 wS (some gc) w [⟨g3, 31, [.int .i64 s, .slice A l.length c]⟩, ⟨g2, 31, [.int .i64 0, .slice none 0 0]⟩, ⟨gc, 80, cs1⟩] [⟨kd_impl_Clue, 48, .slice A l.length c, l⟩] ∧ CU W0 f0 n1 cs1 ∧ l.length + m = 8 ∧ n ≤ n1 ∧ n1 ≤ n + 60 + 2 * l.length ∧ l.length ≤ 7) (8 - l.length) ⟨_, _, _, _, _, _, _, _, HF.sub, HM.sub (by repeat (first | exact List.Sublist.refl _ | exact List.nil_sublist _ | apply List.Sublist.cons_cons | apply List.Sublist.cons)) (by repeat (first | exact List.Sublist.refl _ | exact List.nil_sublist _ | apply List.Sublist.cons_cons | apply List.Sublist.cons)), hU, by omega, by omega, by omega, by omega⟩ ?_
        clear HF HM hU
        rintro m a w ⟨g2, g3, s, A, c, l, n1, cs1, HF, HM, hU, hl1, hl2, hl3, hl4⟩ K2 hK2
        refine sq ?_
        refine dw2 (n := 7) (ds := []) (bs' := [⟨g3, 31, [.int .i64 s, .slice A l.length c]⟩]) (rs' := []) puz.tab8 puz.bits8 HM (by repeat (first | exact List.Sublist.refl _ | exact List.nil_sublist _ | apply List.Sublist.cons_cons | apply List.Sublist.cons)) (by repeat (first | exact List.Sublist.refl _ | exact List.nil_sublist _ | apply List.Sublist.cons_cons | apply List.Sublist.cons)) ?_; clear HM; intro w HM HT HW; have HS := HM.sub (bs' := [⟨g3, 31, [.int .i64 s, .slice A l.length c]⟩]) (rs' := []) (by repeat (first | exact List.Sublist.refl _ | exact List.nil_sublist _ | apply List.Sublist.cons_cons | apply List.Sublist.cons)) (by repeat (first | exact List.Sublist.refl _ | exact List.nil_sublist _ | apply List.Sublist.cons_cons | apply List.Sublist.cons))
        refine pA 0 1 HT rfl HF ?_; clear HF a; intro a HF
        refine pB 1 3 HT rfl HW HF HS ?_; clear HF a; intro a HF
        refine pA 2 7 HT rfl HF ?_; clear HF a; intro a HF
        refine pA 3 15 HT rfl HF ?_; clear HF a; intro a HF
        refine r1_ 4 31 HT (fun K_ hK_ => ?_); refine kc HF g0 Try.func52 (by kernel_rfl) ?_; (with_reducible refine (pick_c (cpM HM hU) (by omega) _).mono ?_); rintro e w1 ⟨r, nn, cs1, rfl, hr_, hC⟩; refine ⟨_, rfl, ?_⟩; replace HM := cuM HM hC; have hU := hC.cu; clear HF a; intro a HF; refine hK_ _ _ (HM.sub (by repeat (first | exact List.Sublist.refl _ | exact List.nil_sublist _ | apply List.Sublist.cons_cons | apply List.Sublist.cons)) (by repeat (first | exact List.Sublist.refl _ | exact List.nil_sublist _ | apply List.Sublist.cons_cons | apply List.Sublist.cons))) ?_; clear hK_ K_ HS; intro HS
        refine pA 5 63 HT rfl HF ?_; clear HF a; intro a HF
        refine ap 6 127 HT rfl HF g0 iltR ?_; clear HF a; intro a HF
        refine dc HT ?_
        refine cD HF (fun hlt => sk (bk (rl ?_))) (fun _ => xe ?_)
        · (repeat (first | (refine li (lzC1 _ _ _ _) HF HM ?_; clear HF HM a; intro Al cl_ a w HF HM) | (refine ar apC HF HM ?_ (hl := by (simp only [List.length_append, List.length_cons, List.length_nil]; omega)); clear HF HM a; intro Al cl_ a w HF HM) | (refine sA HF ?_; clear HF a; intro a HF) | (refine sB HF HM ?_; clear HF a; intro a HF) | (refine aA HF HM ?_; clear HF HM a; intro g a w HF HM) | (refine so HF HM ?_; clear HM; intro w HM) | refine gy HF ?_ | ((first | refine gn HF ?_ | refine gu HF ?_); clear HF a; intro a HF)))
          exact nl (hK2 (m - 1) _ _ (by omega) ⟨_, _, _, _, _, _, _, _, HF.sub, HM.sub (by repeat (first | exact List.Sublist.refl _ | exact List.nil_sublist _ | apply List.Sublist.cons_cons | apply List.Sublist.cons)) (by repeat (first | exact List.Sublist.refl _ | exact List.nil_sublist _ | apply List.Sublist.cons_cons | apply List.Sublist.cons)), hU, (by first | omega | (simp only [List.length_append, List.length_cons, List.length_nil]; omega)), by omega, (by first | omega | (simp only [List.length_append, List.length_cons, List.length_nil]; omega)), (by first | omega | (simp only [List.length_append, List.length_cons, List.length_nil]; omega))⟩)
        · (repeat refine xt ?_)
          exact ib (hK _ _ ⟨_, _, _, _, _, _, _, _, HF.sub, HM.sub (by repeat (first | exact List.Sublist.refl _ | exact List.nil_sublist _ | apply List.Sublist.cons_cons | apply List.Sublist.cons)) (by repeat (first | exact List.Sublist.refl _ | exact List.nil_sublist _ | apply List.Sublist.cons_cons | apply List.Sublist.cons)), hU, by omega, by omega, by omega⟩)
  · clear HF HM hU
    rintro a w ⟨g2, g3, s, A, c, l, n1, cs1, HF, HM, hU, hl1, hl2, hl3⟩
    (repeat (first | (refine sA HF ?_; clear HF a; intro a HF) | (refine sB HF HM ?_; clear HF a; intro a HF) | (refine aA HF HM ?_; clear HF HM a; intro g a w HF HM) | (refine so HF HM ?_; clear HM; intro w HM) | refine gy HF ?_ | ((first | refine gn HF ?_ | refine gu HF ?_); clear HF a; intro a HF) | refine rn ?_ | refine rg ?_))
    refine rt ?_; (repeat (first | refine tr ?_ | refine tb ?_)); exact rS HF rfl (vc st31 HF HM .nil) ⟨_, _, _, _, _, _, rfl, ⟨HM.R_ 0, by omega, by omega, by omega⟩, ccM HM hU⟩
set_option maxHeartbeats 4000000 in
set_option maxRecDepth 100000 in
theorem drawMake {A : Option Addr} {c : Nat} {f0 : List Int} {wS : World} (hr : Kd.C (Kd.int .u8) wS A f0.length f0) (hc : f0.length ≤ c) (hy : ∀ x ∈ f0, 0 ≤ x ∧ x < 256) : Calls Try.prog 15 #[.slice A f0.length c] wS fun e w' => ∃ s x y n z : Int, e = .returned (.tuple #[.int .i64 s, .agg #[.int .i64 x, .int .i64 y], .int .i64 n, .int .i64 z]) ∧ Below wS.heap.size wS w' := by
  refine Ex.start (N := 41) [.slice A f0.length c] Try.func15 rfl (by kernel_rfl) (by simp) fun a HF => ?_
  have hU : CU wS f0 0 [.slice A f0.length c, .int .i64 0, .int .u64 0] := ⟨⟨A, c, 0, rfl, hr⟩, hy⟩
  have HM := Me.start wS
  (repeat (first | (refine bx (bz80 _ _ _) HF HM ?_; clear HF HM a; intro gc a w HF HM) | (refine sA HF ?_; clear HF a; intro a HF) | (refine sB HF HM ?_; clear HF a; intro a HF) | (refine aA HF HM ?_; clear HF HM a; intro g a w HF HM) | (refine so HF HM ?_; clear HM; intro w HM) | refine gy HF ?_ | ((first | refine gn HF ?_ | refine gu HF ?_); clear HF a; intro a HF) | refine rn ?_ | refine rg ?_))
  refine sq (rg ?_)
  (repeat (first | (refine cl (f := 49) HF Try.func49 (by kernel_rfl) ?_; (with_reducible refine (one_c (cpM HM hU) (by omega) _).mono ?_); rintro e w1 ⟨b, nn, cs1, rfl, hr_, hC⟩; refine ⟨_, rfl, ?_⟩; replace HM := cuM HM hC; have hU := hC.cu; clear HF a; intro a HF) | (refine sA HF ?_; clear HF a; intro a HF) | (refine sB HF HM ?_; clear HF a; intro a HF) | (refine aA HF HM ?_; clear HF HM a; intro g a w HF HM) | (refine so HF HM ?_; clear HM; intro w HM) | refine gy HF ?_ | ((first | refine gn HF ?_ | refine gu HF ?_); clear HF a; intro a HF) | refine rn ?_ | refine rg ?_))
  refine cB HF (rg ?_) (sk ?_)
  all_goals
    (repeat (first | ((first | refine li (lz3 _ _ _) HF HM ?_ | refine li (lz4 _ _ _ _) HF HM ?_ | refine li (lz5 _ _ _ _ _) HF HM ?_ | refine li (lz7 _ _ _ _ _ _ _) HF HM ?_ | refine li (lz8 _ _ _ _ _ _ _ _) HF HM ?_); clear HF HM a; intro Al cl_ a w HF HM) | (refine cl (f := 50) HF Try.func50 (by kernel_rfl) ?_; (with_reducible refine (among_c (cpM HM hU) (by omega) HM.C1 (blkne HM (g := _) (t := 80)) (by simp)).mono ?_); rintro e w1 ⟨r, nn, cs1, rfl, hr_, hC⟩; refine ⟨_, rfl, ?_⟩; replace HM := cuM HM hC; have hU := hC.cu; clear HF a; intro a HF) | (refine cl (f := 51) HF Try.func51 (by kernel_rfl) ?_; (with_reducible refine (peg_c (cpM HM hU) (by omega)).mono ?_); rintro e w1 ⟨x, y, nn, cs1, rfl, hr_, hC⟩; refine ⟨_, rfl, ?_⟩; replace HM := cuM HM hC; have hU := hC.cu; clear HF a; intro a HF) | (refine cl (f := 52) HF Try.func52 (by kernel_rfl) ?_; (with_reducible refine (pick_c (cpM HM hU) (by omega) _).mono ?_); rintro e w1 ⟨r, nn, cs1, rfl, hr_, hC⟩; refine ⟨_, rfl, ?_⟩; replace HM := cuM HM hC; have hU := hC.cu; clear HF a; intro a HF) | (refine sA HF ?_; clear HF a; intro a HF) | (refine sB HF HM ?_; clear HF a; intro a HF) | (refine aA HF HM ?_; clear HF HM a; intro g a w HF HM) | (refine so HF HM ?_; clear HM; intro w HM) | refine gy HF ?_ | ((first | refine gn HF ?_ | refine gu HF ?_); clear HF a; intro a HF) | refine rn ?_ | refine rg ?_))
    refine rt ?_; (repeat (first | refine tr ?_ | refine tb ?_)); exact rL HF rfl (vt HF (vc st41 HF HM (vt HF (vt HF .nil)))) ⟨_, _, _, _, _, rfl, HM.bel⟩
set_option maxHeartbeats 4000000 in
set_option maxRecDepth 100000 in
theorem drawAdd (mk : MKS) {A : Option Addr} {c : Nat} {f0 : List Int} {wS : World} (hr : Kd.C (Kd.int .u8) wS A f0.length f0) (hc : f0.length ≤ c) (hy : ∀ x ∈ f0, 0 ≤ x ∧ x < 256) : Calls Try.prog 28 #[.slice A f0.length c] wS fun e w' => ∃ (s : Int) (A' : Option Addr) (c' : Nat) (cl : List S_impl_Clue) (q0 q1 q2 q3 : Int), e = .returned (.tuple #[.agg #[.int .i64 s, .slice A' cl.length c'], .agg #[.int .i64 q0, .int .i64 q1, .int .i64 q2, .int .i64 q3]]) ∧ Kd.R kd_impl_Clue 48 w' wS.heap.size (fun _ => True) (.slice A' cl.length c') cl ∧ cl.length ≤ 100 ∧ Below wS.heap.size wS w' := by
  refine Ex.start (N := 12) [.slice A f0.length c] Try.func28 rfl (by kernel_rfl) (by simp) fun a HF => ?_
  have hU : CU wS f0 0 [.slice A f0.length c, .int .i64 0, .int .u64 0] := ⟨⟨A, c, 0, rfl, hr⟩, hy⟩
  have HM := Me.start wS
  (repeat (first | (refine cl (f := 66) HF Try.func66 (by kernel_rfl) ?_; (with_reducible refine (puzzle_c (cpM HM hU) (by omega) mk).mono ?_); rintro e w1 ⟨s, Al, cl_, l, nn, cs1, rfl, ⟨hR_, hl_, hr_⟩, hC⟩; refine ⟨_, rfl, ?_⟩; replace HM := cuRow HM hC hR_; have hU := hC.cu; clear HF a; intro a HF) | (refine cl (f := 74) HF Try.func74 (by kernel_rfl) ?_; (with_reducible refine (clue_c (cpM HM hU) (by omega)).mono ?_); rintro e w1 ⟨q0, q1, q2, q3, nn, cs1, rfl, hr_, hC⟩; refine ⟨_, rfl, ?_⟩; replace HM := cuM HM hC; have hU := hC.cu; clear HF a; intro a HF) | (refine bx (bz80 _ _ _) HF HM ?_; clear HF HM a; intro gc a w HF HM) | (refine sA HF ?_; clear HF a; intro a HF) | (refine sB HF HM ?_; clear HF a; intro a HF) | (refine aA HF HM ?_; clear HF HM a; intro g a w HF HM) | (refine so HF HM ?_; clear HM; intro w HM) | refine gy HF ?_ | ((first | refine gn HF ?_ | refine gu HF ?_); clear HF a; intro a HF) | refine rn ?_ | refine rg ?_))
  refine rt ?_; (repeat (first | refine tr ?_ | refine tb ?_)); exact rL HF rfl (vc st31 HF HM (vc st48 HF HM .nil)) ⟨_, _, _, _, _, _, _, _, rfl, HM.R_ 0, by omega, HM.bel⟩
set_option maxHeartbeats 4000000 in
set_option maxRecDepth 100000 in
theorem drawDrop (mk : MKS) {A : Option Addr} {c : Nat} {f0 : List Int} {wS : World} (hr : Kd.C (Kd.int .u8) wS A f0.length f0) (hc : f0.length ≤ c) (hy : ∀ x ∈ f0, 0 ≤ x ∧ x < 256) : Calls Try.prog 31 #[.slice A f0.length c] wS fun e w' => ∃ (s : Int) (A' : Option Addr) (c' : Nat) (cl : List S_impl_Clue) (k : Int), e = .returned (.tuple #[.agg #[.int .i64 s, .slice A' cl.length c'], .int .i64 k]) ∧ Kd.R kd_impl_Clue 48 w' wS.heap.size (fun _ => True) (.slice A' cl.length c') cl ∧ cl.length ≤ 100 ∧ Below wS.heap.size wS w' := by
  refine Ex.start (N := 16) [.slice A f0.length c] Try.func31 rfl (by kernel_rfl) (by simp) fun a HF => ?_
  have hU : CU wS f0 0 [.slice A f0.length c, .int .i64 0, .int .u64 0] := ⟨⟨A, c, 0, rfl, hr⟩, hy⟩
  have HM := Me.start wS
  (repeat (first | (refine bx (bz80 _ _ _) HF HM ?_; clear HF HM a; intro gc a w HF HM) | (refine cl (f := 66) HF Try.func66 (by kernel_rfl) ?_; (with_reducible refine (puzzle_c (cpM HM hU) (by omega) mk).mono ?_); rintro e w1 ⟨s, Al, cl_, l, nn, cs1, rfl, ⟨hR_, hl_, hr_⟩, hC⟩; refine ⟨_, rfl, ?_⟩; replace HM := cuRow HM hC hR_; have hU := hC.cu; clear HF a; intro a HF) | (refine cl (f := 52) HF Try.func52 (by kernel_rfl) ?_; (with_reducible refine (pick_c (cpM HM hU) (by omega) _).mono ?_); rintro e w1 ⟨r, nn, cs1, rfl, hr_, hC⟩; refine ⟨_, rfl, ?_⟩; replace HM := cuM HM hC; have hU := hC.cu; clear HF a; intro a HF) | (refine sA HF ?_; clear HF a; intro a HF) | (refine sB HF HM ?_; clear HF a; intro a HF) | (refine aA HF HM ?_; clear HF HM a; intro g a w HF HM) | (refine so HF HM ?_; clear HM; intro w HM) | refine gy HF ?_ | ((first | refine gn HF ?_ | refine gu HF ?_); clear HF a; intro a HF) | refine rn ?_ | refine rg ?_))
  refine rt ?_; (repeat (first | refine tr ?_ | refine tb ?_)); exact rL HF rfl (vc st31 HF HM (vt HF .nil)) ⟨_, _, _, _, _, rfl, HM.R_ 0, by omega, HM.bel⟩
set_option maxHeartbeats 4000000 in
set_option maxRecDepth 100000 in
theorem drawIs {A : Option Addr} {c : Nat} {f0 : List Int} {wS : World} (hr : Kd.C (Kd.int .u8) wS A f0.length f0) (hc : f0.length ≤ c) (hy : ∀ x ∈ f0, 0 ≤ x ∧ x < 256) : Calls Try.prog 36 #[.slice A f0.length c] wS fun e w' => ∃ n q0 q1 q2 q3 : Int, e = .returned (.tuple #[.int .i64 n, .agg #[.int .i64 q0, .int .i64 q1, .int .i64 q2, .int .i64 q3]]) ∧ Below wS.heap.size wS w' := by
  refine Ex.start (N := 34) [.slice A f0.length c] Try.func36 rfl (by kernel_rfl) (by simp) fun a HF => ?_
  have hU : CU wS f0 0 [.slice A f0.length c, .int .i64 0, .int .u64 0] := ⟨⟨A, c, 0, rfl, hr⟩, hy⟩
  have HM := Me.start wS
  (repeat (first | (refine bx (bz80 _ _ _) HF HM ?_; clear HF HM a; intro gc a w HF HM) | (refine sA HF ?_; clear HF a; intro a HF) | (refine sB HF HM ?_; clear HF a; intro a HF) | (refine aA HF HM ?_; clear HF HM a; intro g a w HF HM) | (refine so HF HM ?_; clear HM; intro w HM) | refine gy HF ?_ | ((first | refine gn HF ?_ | refine gu HF ?_); clear HF a; intro a HF) | refine rn ?_ | refine rg ?_))
  refine sq (rg ?_)
  (repeat (first | (refine cl (f := 49) HF Try.func49 (by kernel_rfl) ?_; (with_reducible refine (one_c (cpM HM hU) (by omega) _).mono ?_); rintro e w1 ⟨b, nn, cs1, rfl, hr_, hC⟩; refine ⟨_, rfl, ?_⟩; replace HM := cuM HM hC; have hU := hC.cu; clear HF a; intro a HF) | (refine sA HF ?_; clear HF a; intro a HF) | (refine sB HF HM ?_; clear HF a; intro a HF) | (refine aA HF HM ?_; clear HF HM a; intro g a w HF HM) | (refine so HF HM ?_; clear HM; intro w HM) | refine gy HF ?_ | ((first | refine gn HF ?_ | refine gu HF ?_); clear HF a; intro a HF) | refine rn ?_ | refine rg ?_))
  refine cB HF (rg ?_) (sk ?_)
  all_goals
    (repeat (first | ((first | refine li (lz3 _ _ _) HF HM ?_ | refine li (lz4 _ _ _ _) HF HM ?_ | refine li (lz5 _ _ _ _ _) HF HM ?_ | refine li (lz7 _ _ _ _ _ _ _) HF HM ?_ | refine li (lz8 _ _ _ _ _ _ _ _) HF HM ?_); clear HF HM a; intro Al cl_ a w HF HM) | (refine cl (f := 50) HF Try.func50 (by kernel_rfl) ?_; (with_reducible refine (among_c (cpM HM hU) (by omega) HM.C1 (blkne HM (g := _) (t := 80)) (by simp)).mono ?_); rintro e w1 ⟨r, nn, cs1, rfl, hr_, hC⟩; refine ⟨_, rfl, ?_⟩; replace HM := cuM HM hC; have hU := hC.cu; clear HF a; intro a HF) | (refine cl (f := 52) HF Try.func52 (by kernel_rfl) ?_; (with_reducible refine (pick_c (cpM HM hU) (by omega) _).mono ?_); rintro e w1 ⟨r, nn, cs1, rfl, hr_, hC⟩; refine ⟨_, rfl, ?_⟩; replace HM := cuM HM hC; have hU := hC.cu; clear HF a; intro a HF) | (refine cl (f := 74) HF Try.func74 (by kernel_rfl) ?_; (with_reducible refine (clue_c (cpM HM hU) (by omega)).mono ?_); rintro e w1 ⟨q0, q1, q2, q3, nn, cs1, rfl, hr_, hC⟩; refine ⟨_, rfl, ?_⟩; replace HM := cuM HM hC; have hU := hC.cu; clear HF a; intro a HF) | (refine sA HF ?_; clear HF a; intro a HF) | (refine sB HF HM ?_; clear HF a; intro a HF) | (refine aA HF HM ?_; clear HF HM a; intro g a w HF HM) | (refine so HF HM ?_; clear HM; intro w HM) | refine gy HF ?_ | ((first | refine gn HF ?_ | refine gu HF ?_); clear HF a; intro a HF) | refine rn ?_ | refine rg ?_))
    refine rt ?_; (repeat (first | refine tr ?_ | refine tb ?_)); exact rL HF rfl (vt HF (vc st48 HF HM .nil)) ⟨_, _, _, _, _, rfl, HM.bel⟩
def fit.T5 : Bool × List (List Nat × List Nat) := (true, [([], []), ([], []), ([1], [1]), ([], []), ([], []), ([4], [4]), ([3, 5, 2], [3, 5]), ([], []), ([], []), ([8], [8]), ([7, 9, 6], [7, 9]), ([6, 10], [6, 10]), ([], []), ([2, 11, 12, 10], [2, 11, 12]), ([], []), ([0, 13, 0], [0]), ([13, 15, 0, 1, 2, 3, 4, 5, 6, 7, 8, 9, 10, 11, 12, 13, 15], [13]), ([14, 16, 0, 1, 2, 3, 4, 5, 6, 7, 8, 9, 10, 11, 12, 13, 14, 15, 16], [14])])
def fit.B5 : List Nat := [0, 0, 2, 0, 0, 16, 62, 0, 0, 256, 1022, 2046, 0, 8190, 0, 16383, 49151, 131071]
theorem fit.tab5 : rtab .any (opsOf Try.f34 5) = fit.T5 := by kernel_rfl
theorem fit.bits5 : waitsOk fit.T5.2 fit.B5 = true := by kernel_rfl
def fit.T8 : Bool × List (List Nat × List Nat) := (true, [([], []), ([], []), ([1], [1]), ([], []), ([0, 2, 0], [0]), ([2, 4, 0, 1, 2, 4], [2]), ([3, 5, 0, 1, 2, 3, 4, 5], [3])])
def fit.B8 : List Nat := [0, 0, 2, 0, 7, 23, 63]
theorem fit.tab8 : rtab .any (opsOf Try.f34 8) = fit.T8 := by kernel_rfl
theorem fit.bits8 : waitsOk fit.T8.2 fit.B8 = true := by kernel_rfl

set_option maxHeartbeats 4000000 in
set_option maxRecDepth 100000 in
theorem drawFit (pz : PZS) {A : Option Addr} {c : Nat} {f0 : List Int} {wS : World} (hr : Kd.C (Kd.int .u8) wS A f0.length f0) (hc : f0.length ≤ c) (hy : ∀ x ∈ f0, 0 ≤ x ∧ x < 256) : Calls Try.prog 34 #[.slice A f0.length c] wS fun e w' => ∃ n q0 q1 q2 q3 x y : Int, e = .returned (.tuple #[.int .i64 n, .agg #[.int .i64 q0, .int .i64 q1, .int .i64 q2, .int .i64 q3], .agg #[.int .i64 x, .int .i64 y]]) ∧ Below wS.heap.size wS w' := by
  refine Ex.start (N := 48) [.slice A f0.length c] Try.func34 rfl (by kernel_rfl) (by simp) fun a HF => ?_
  have hU : CU wS f0 0 [.slice A f0.length c, .int .i64 0, .int .u64 0] := ⟨⟨A, c, 0, rfl, hr⟩, hy⟩
  have HM := Me.start wS
  (repeat (first | (refine bx (bz80 _ _ _) HF HM ?_; clear HF HM a; intro gc a w HF HM) | (refine cl (f := 52) HF Try.func52 (by kernel_rfl) ?_; (with_reducible refine (pick_c (cpM HM hU) (by omega) _).mono ?_); rintro e w1 ⟨r, nn, cs1, rfl, hr_, hC⟩; refine ⟨_, rfl, ?_⟩; replace HM := cuM HM hC; have hU := hC.cu; clear HF a; intro a HF) | (refine sA HF ?_; clear HF a; intro a HF) | (refine sB HF HM ?_; clear HF a; intro a HF) | (refine aA HF HM ?_; clear HF HM a; intro g a w HF HM) | (refine so HF HM ?_; clear HM; intro w HM) | refine gy HF ?_ | ((first | refine gn HF ?_ | refine gu HF ?_); clear HF a; intro a HF) | refine rn ?_ | refine rg ?_))
  refine sq (rg ?_)
  (repeat (first | (refine cl (f := 49) HF Try.func49 (by kernel_rfl) ?_; (with_reducible refine (one_c (cpM HM hU) (by omega) _).mono ?_); rintro e w1 ⟨b, nn, cs1, rfl, hr_, hC⟩; refine ⟨_, rfl, ?_⟩; replace HM := cuM HM hC; have hU := hC.cu; clear HF a; intro a HF) | (refine sA HF ?_; clear HF a; intro a HF) | (refine sB HF HM ?_; clear HF a; intro a HF) | (refine aA HF HM ?_; clear HF HM a; intro g a w HF HM) | (refine so HF HM ?_; clear HM; intro w HM) | refine gy HF ?_ | ((first | refine gn HF ?_ | refine gu HF ?_); clear HF a; intro a HF) | refine rn ?_ | refine rg ?_))
  refine cB HF ?_ (sk ?_)
  · refine dw2 (n := 18) (ds := []) (bs' := [⟨_, 41, [.int .i64 _, .int .i64 _]⟩]) (rs' := []) fit.tab5 fit.bits5 HM (by repeat (first | exact List.Sublist.refl _ | exact List.nil_sublist _ | apply List.Sublist.cons_cons | apply List.Sublist.cons)) (by repeat (first | exact List.Sublist.refl _ | exact List.nil_sublist _ | apply List.Sublist.cons_cons | apply List.Sublist.cons)) ?_; clear HM; intro w HM HT HW; have HS := HM.sub (bs' := [⟨_, 41, [.int .i64 _, .int .i64 _]⟩]) (rs' := []) (by repeat (first | exact List.Sublist.refl _ | exact List.nil_sublist _ | apply List.Sublist.cons_cons | apply List.Sublist.cons)) (by repeat (first | exact List.Sublist.refl _ | exact List.nil_sublist _ | apply List.Sublist.cons_cons | apply List.Sublist.cons))
    refine pA 0 1 HT rfl HF ?_; clear HF a; intro a HF
    refine pA 1 3 HT rfl HF ?_; clear HF a; intro a HF
    refine pA 3 11 HT rfl HF ?_; clear HF a; intro a HF
    refine pA 4 27 HT rfl HF ?_; clear HF a; intro a HF
    refine pA 5 59 HT rfl HF ?_; clear HF a; intro a HF
    refine pA 7 187 HT rfl HF ?_; clear HF a; intro a HF
    refine pA 8 443 HT rfl HF ?_; clear HF a; intro a HF
    refine pA 9 955 HT rfl HF ?_; clear HF a; intro a HF
    refine pB 12 5051 HT rfl HW HF HS ?_; clear HF a; intro a HF
    refine pB 14 21435 HT rfl HW HF HS ?_; clear HF a; intro a HF
    refine r1_ 2 21439 HT (fun K_ hK_ => ?_); refine kc HF g0 Try.func52 (by kernel_rfl) ?_; (with_reducible refine (pick_c (cpM HM hU) (by omega) _).mono ?_); rintro e w1 ⟨r, nn, cs1, rfl, hr_, hC⟩; refine ⟨_, rfl, ?_⟩; replace HM := cuM HM hC; have hU := hC.cu; clear HF a; intro a HF; refine hK_ _ _ (HM.sub (by repeat (first | exact List.Sublist.refl _ | exact List.nil_sublist _ | apply List.Sublist.cons_cons | apply List.Sublist.cons)) (by repeat (first | exact List.Sublist.refl _ | exact List.nil_sublist _ | apply List.Sublist.cons_cons | apply List.Sublist.cons))) ?_; clear hK_ K_ HS; intro HS
    refine r1_ 6 21503 HT (fun K_ hK_ => ?_); refine kc HF g0 Try.func52 (by kernel_rfl) ?_; (with_reducible refine (pick_c (cpM HM hU) (by omega) _).mono ?_); rintro e w1 ⟨r, nn, cs1, rfl, hr_, hC⟩; refine ⟨_, rfl, ?_⟩; replace HM := cuM HM hC; have hU := hC.cu; clear HF a; intro a HF; refine hK_ _ _ (HM.sub (by repeat (first | exact List.Sublist.refl _ | exact List.nil_sublist _ | apply List.Sublist.cons_cons | apply List.Sublist.cons)) (by repeat (first | exact List.Sublist.refl _ | exact List.nil_sublist _ | apply List.Sublist.cons_cons | apply List.Sublist.cons))) ?_; clear hK_ K_ HS; intro HS
    refine r1_ 10 22527 HT (fun K_ hK_ => ?_); refine kc HF g0 Try.func52 (by kernel_rfl) ?_; (with_reducible refine (pick_c (cpM HM hU) (by omega) _).mono ?_); rintro e w1 ⟨r, nn, cs1, rfl, hr_, hC⟩; refine ⟨_, rfl, ?_⟩; replace HM := cuM HM hC; have hU := hC.cu; clear HF a; intro a HF; refine hK_ _ _ (HM.sub (by repeat (first | exact List.Sublist.refl _ | exact List.nil_sublist _ | apply List.Sublist.cons_cons | apply List.Sublist.cons)) (by repeat (first | exact List.Sublist.refl _ | exact List.nil_sublist _ | apply List.Sublist.cons_cons | apply List.Sublist.cons))) ?_; clear hK_ K_ HS; intro HS
    refine pA 11 24575 HT rfl HF ?_; clear HF a; intro a HF
    refine r1_ 13 32767 HT (fun K_ hK_ => ?_); refine kc HF g0 Try.func61 (by kernel_rfl) ?_; (with_reducible refine (pz.run _ _ _ _ _ _ (by omega) (by omega) (by omega) (by omega) (by omega)).mono ?_); rintro e w1 ⟨q0, q1, q2, q3, rfl, hb_⟩; refine ⟨_, rfl, ?_⟩; replace HM := HM.call hb_; clear HF a; intro a HF; refine hK_ _ _ (HM.sub (by repeat (first | exact List.Sublist.refl _ | exact List.nil_sublist _ | apply List.Sublist.cons_cons | apply List.Sublist.cons)) (by repeat (first | exact List.Sublist.refl _ | exact List.nil_sublist _ | apply List.Sublist.cons_cons | apply List.Sublist.cons))) ?_; clear hK_ K_ HS; intro HS
    refine pA 15 65535 HT rfl HF ?_; clear HF a; intro a HF
    refine r1_ 16 131071 HT (fun K_ hK_ => ?_); refine ks HF HM ?_; clear HM; intro w HM; refine hK_ _ _ (HM.sub (by repeat (first | exact List.Sublist.refl _ | exact List.nil_sublist _ | apply List.Sublist.cons_cons | apply List.Sublist.cons)) (by repeat (first | exact List.Sublist.refl _ | exact List.nil_sublist _ | apply List.Sublist.cons_cons | apply List.Sublist.cons))) ?_; clear hK_ K_ HS; intro HS
    refine r1_ 17 262143 HT (fun K_ hK_ => ?_); refine ks HF HM ?_; clear HM; intro w HM; refine hK_ _ _ (HM.sub (by repeat (first | exact List.Sublist.refl _ | exact List.nil_sublist _ | apply List.Sublist.cons_cons | apply List.Sublist.cons)) (by repeat (first | exact List.Sublist.refl _ | exact List.nil_sublist _ | apply List.Sublist.cons_cons | apply List.Sublist.cons))) ?_; clear hK_ K_ HS; intro HS
    refine dc HT ?_
    refine rt ?_; (repeat (first | refine tr ?_ | refine tb ?_)); exact rL HF rfl (vt HF (vc st48 HF HM (vc st41 HF HM .nil))) ⟨_, _, _, _, _, _, _, rfl, HM.bel⟩
  · refine sq (rg ?_)
    (repeat (first | (refine cl (f := 49) HF Try.func49 (by kernel_rfl) ?_; (with_reducible refine (one_c (cpM HM hU) (by omega) _).mono ?_); rintro e w1 ⟨b, nn, cs1, rfl, hr_, hC⟩; refine ⟨_, rfl, ?_⟩; replace HM := cuM HM hC; have hU := hC.cu; clear HF a; intro a HF) | (refine sA HF ?_; clear HF a; intro a HF) | (refine sB HF HM ?_; clear HF a; intro a HF) | (refine aA HF HM ?_; clear HF HM a; intro g a w HF HM) | (refine so HF HM ?_; clear HM; intro w HM) | refine gy HF ?_ | ((first | refine gn HF ?_ | refine gu HF ?_); clear HF a; intro a HF) | refine rn ?_ | refine rg ?_))
    refine cB HF (rl ?_) (sk ?_)
    all_goals
      (repeat (first | (refine cl (f := 51) HF Try.func51 (by kernel_rfl) ?_; (with_reducible refine (peg_c (cpM HM hU) (by omega)).mono ?_); rintro e w1 ⟨x, y, nn, cs1, rfl, hr_, hC⟩; refine ⟨_, rfl, ?_⟩; replace HM := cuM HM hC; have hU := hC.cu; clear HF a; intro a HF) | (refine sA HF ?_; clear HF a; intro a HF) | (refine sB HF HM ?_; clear HF a; intro a HF) | (refine aA HF HM ?_; clear HF HM a; intro g a w HF HM) | (refine so HF HM ?_; clear HM; intro w HM) | refine gy HF ?_ | ((first | refine gn HF ?_ | refine gu HF ?_); clear HF a; intro a HF) | refine rn ?_))
      refine dw2 (n := 7) (ds := []) (bs' := [⟨_, 41, [.int .i64 _, .int .i64 _]⟩]) (rs' := []) fit.tab8 fit.bits8 HM (by repeat (first | exact List.Sublist.refl _ | exact List.nil_sublist _ | apply List.Sublist.cons_cons | apply List.Sublist.cons)) (by repeat (first | exact List.Sublist.refl _ | exact List.nil_sublist _ | apply List.Sublist.cons_cons | apply List.Sublist.cons)) ?_; clear HM; intro w HM HT HW; have HS := HM.sub (bs' := [⟨_, 41, [.int .i64 _, .int .i64 _]⟩]) (rs' := []) (by repeat (first | exact List.Sublist.refl _ | exact List.nil_sublist _ | apply List.Sublist.cons_cons | apply List.Sublist.cons)) (by repeat (first | exact List.Sublist.refl _ | exact List.nil_sublist _ | apply List.Sublist.cons_cons | apply List.Sublist.cons))
      refine pA 0 1 HT rfl HF ?_; clear HF a; intro a HF
      refine pA 1 3 HT rfl HF ?_; clear HF a; intro a HF
      refine pB 3 11 HT rfl HW HF HS ?_; clear HF a; intro a HF
      refine r1_ 2 15 HT (fun K_ hK_ => ?_); refine kc HF g0 Try.func74 (by kernel_rfl) ?_; (with_reducible refine (clue_c (cpM HM hU) (by omega)).mono ?_); rintro e w1 ⟨q0, q1, q2, q3, nn, cs1, rfl, hr_, hC⟩; refine ⟨_, rfl, ?_⟩; replace HM := cuM HM hC; have hU := hC.cu; clear HF a; intro a HF; refine hK_ _ _ (HM.sub (by repeat (first | exact List.Sublist.refl _ | exact List.nil_sublist _ | apply List.Sublist.cons_cons | apply List.Sublist.cons)) (by repeat (first | exact List.Sublist.refl _ | exact List.nil_sublist _ | apply List.Sublist.cons_cons | apply List.Sublist.cons))) ?_; clear hK_ K_ HS; intro HS
      refine pA 4 31 HT rfl HF ?_; clear HF a; intro a HF
      refine r1_ 5 63 HT (fun K_ hK_ => ?_); refine ks HF HM ?_; clear HM; intro w HM; refine hK_ _ _ (HM.sub (by repeat (first | exact List.Sublist.refl _ | exact List.nil_sublist _ | apply List.Sublist.cons_cons | apply List.Sublist.cons)) (by repeat (first | exact List.Sublist.refl _ | exact List.nil_sublist _ | apply List.Sublist.cons_cons | apply List.Sublist.cons))) ?_; clear hK_ K_ HS; intro HS
      refine r1_ 6 127 HT (fun K_ hK_ => ?_); refine ks HF HM ?_; clear HM; intro w HM; refine hK_ _ _ (HM.sub (by repeat (first | exact List.Sublist.refl _ | exact List.nil_sublist _ | apply List.Sublist.cons_cons | apply List.Sublist.cons)) (by repeat (first | exact List.Sublist.refl _ | exact List.nil_sublist _ | apply List.Sublist.cons_cons | apply List.Sublist.cons))) ?_; clear hK_ K_ HS; intro HS
      refine dc HT ?_
      refine rt ?_; (repeat (first | refine tr ?_ | refine tb ?_)); exact rL HF rfl (vt HF (vc st48 HF HM (vc st41 HF HM .nil))) ⟨_, _, _, _, _, _, _, rfl, HM.bel⟩
def hard.T6 : Bool × List (List Nat × List Nat) := (true, [([], []), ([], []), ([], []), ([2], [2]), ([], []), ([4, 3], [4]), ([0, 1, 3, 5, 5], [0, 1, 3, 5]), ([6], [6]), ([7], [7]), ([7], [7]), ([], []), ([10, 8, 6, 0, 1, 2, 3, 4, 5, 6, 7, 8, 10], [8, 10]), ([9, 11, 0, 1, 2, 3, 4, 5, 6, 7, 8, 9, 10, 11], [9])])
def hard.B6 : List Nat := [0, 0, 0, 4, 0, 28, 63, 127, 255, 255, 0, 1535, 4095]
theorem hard.tab6 : rtab .any (opsOf Try.f21 6) = hard.T6 := by kernel_rfl
theorem hard.bits6 : waitsOk hard.T6.2 hard.B6 = true := by kernel_rfl
def hard.T7 : Bool × List (List Nat × List Nat) := (true, [([], []), ([0], [0]), ([], []), ([], []), ([2, 3], [2, 3]), ([], []), ([], []), ([5, 6, 4], [5, 6]), ([4, 7], [4, 7]), ([1, 8, 7], [1, 8]), ([0, 1, 2, 3, 4, 5, 6, 7, 8, 9], []), ([10, 9, 9, 0, 1, 2, 3, 4, 5, 6, 7, 8, 9], [9, 10])])
def hard.B7 : List Nat := [0, 1, 0, 0, 12, 0, 0, 124, 252, 511, 1023, 2047]
theorem hard.tab7 : rtab .any (opsOf Try.f21 7) = hard.T7 := by kernel_rfl
theorem hard.bits7 : waitsOk hard.T7.2 hard.B7 = true := by kernel_rfl

set_option maxHeartbeats 4000000 in
set_option maxRecDepth 100000 in
theorem drawHarder (mk : MKS) (pz : PZS) {A : Option Addr} {c : Nat} {f0 : List Int} {wS : World} (hr : Kd.C (Kd.int .u8) wS A f0.length f0) (hc : f0.length ≤ c) (hy : ∀ x ∈ f0, 0 ≤ x ∧ x < 256) : Calls Try.prog 21 #[.slice A f0.length c] wS fun e w' => ∃ (s : Int) (A' : Option Addr) (c' : Nat) (cl : List S_impl_Clue), e = .returned (.agg #[.int .i64 s, .slice A' cl.length c']) ∧ Kd.R kd_impl_Clue 48 w' wS.heap.size (fun _ => True) (.slice A' cl.length c') cl ∧ cl.length ≤ 100 ∧ Below wS.heap.size wS w' := by
  refine Ex.start (N := 49) [.slice A f0.length c] Try.func21 rfl (by kernel_rfl) (by simp) fun a HF => ?_
  have hU : CU wS f0 0 [.slice A f0.length c, .int .i64 0, .int .u64 0] := ⟨⟨A, c, 0, rfl, hr⟩, hy⟩
  have HM := Me.start wS
  (repeat (first | (refine bx (bz80 _ _ _) HF HM ?_; clear HF HM a; intro gc a w HF HM) | (refine sA HF ?_; clear HF a; intro a HF) | (refine sB HF HM ?_; clear HF a; intro a HF) | (refine aA HF HM ?_; clear HF HM a; intro g a w HF HM) | (refine so HF HM ?_; clear HM; intro w HM) | refine gy HF ?_ | ((first | refine gn HF ?_ | refine gu HF ?_); clear HF a; intro a HF) | refine rn ?_ | refine rg ?_))
  refine sq (rg ?_)
  (repeat (first | (refine cl (f := 49) HF Try.func49 (by kernel_rfl) ?_; (with_reducible refine (one_c (cpM HM hU) (by omega) _).mono ?_); rintro e w1 ⟨b, nn, cs1, rfl, hr_, hC⟩; refine ⟨_, rfl, ?_⟩; replace HM := cuM HM hC; have hU := hC.cu; clear HF a; intro a HF) | (refine sA HF ?_; clear HF a; intro a HF) | (refine sB HF HM ?_; clear HF a; intro a HF) | (refine aA HF HM ?_; clear HF HM a; intro g a w HF HM) | (refine so HF HM ?_; clear HM; intro w HM) | refine gy HF ?_ | ((first | refine gn HF ?_ | refine gu HF ?_); clear HF a; intro a HF) | refine rn ?_ | refine rg ?_))
  refine cB HF (rg ?_) (sk ?_)
  · (repeat (first | (refine cl (f := 66) HF Try.func66 (by kernel_rfl) ?_; (with_reducible refine (puzzle_c (cpM HM hU) (by omega) mk).mono ?_); rintro e w1 ⟨s, Al, cl_, l, nn, cs1, rfl, ⟨hR_, hl_, hr_⟩, hC⟩; refine ⟨_, rfl, ?_⟩; replace HM := cuRow HM hC hR_; have hU := hC.cu; clear HF a; intro a HF) | (refine sA HF ?_; clear HF a; intro a HF) | (refine sB HF HM ?_; clear HF a; intro a HF) | (refine aA HF HM ?_; clear HF HM a; intro g a w HF HM) | (refine so HF HM ?_; clear HM; intro w HM) | refine gy HF ?_ | ((first | refine gn HF ?_ | refine gu HF ?_); clear HF a; intro a HF) | refine rn ?_ | refine rg ?_))
    refine rt ?_; (repeat (first | refine tr ?_ | refine tb ?_)); exact rS HF rfl (vc st31 HF HM .nil) ⟨_, _, _, _, rfl, HM.R_ 0, by omega, HM.bel⟩
  · (repeat (first | (refine cl (f := 52) HF Try.func52 (by kernel_rfl) ?_; (with_reducible refine (pick_c (cpM HM hU) (by omega) _).mono ?_); rintro e w1 ⟨r, nn, cs1, rfl, hr_, hC⟩; refine ⟨_, rfl, ?_⟩; replace HM := cuM HM hC; have hU := hC.cu; clear HF a; intro a HF) | (refine sA HF ?_; clear HF a; intro a HF) | (refine sB HF HM ?_; clear HF a; intro a HF) | (refine aA HF HM ?_; clear HF HM a; intro g a w HF HM) | (refine so HF HM ?_; clear HM; intro w HM) | refine gy HF ?_ | ((first | refine gn HF ?_ | refine gu HF ?_); clear HF a; intro a HF) | refine rn ?_ | refine rg ?_))
    refine dw2 (n := 13) (ds := []) (bs' := [⟨_, 41, [.int .i64 _, .int .i64 _]⟩]) (rs' := []) hard.tab6 hard.bits6 HM (by repeat (first | exact List.Sublist.refl _ | exact List.nil_sublist _ | apply List.Sublist.cons_cons | apply List.Sublist.cons)) (by repeat (first | exact List.Sublist.refl _ | exact List.nil_sublist _ | apply List.Sublist.cons_cons | apply List.Sublist.cons)) ?_; clear HM; intro w HM HT HW; have HS := HM.sub (bs' := [⟨_, 41, [.int .i64 _, .int .i64 _]⟩]) (rs' := []) (by repeat (first | exact List.Sublist.refl _ | exact List.nil_sublist _ | apply List.Sublist.cons_cons | apply List.Sublist.cons)) (by repeat (first | exact List.Sublist.refl _ | exact List.nil_sublist _ | apply List.Sublist.cons_cons | apply List.Sublist.cons))
    refine pA 0 1 HT rfl HF ?_; clear HF a; intro a HF
    refine pB 1 3 HT rfl HW HF HS ?_; clear HF a; intro a HF
    refine pA 2 7 HT rfl HF ?_; clear HF a; intro a HF
    refine pA 4 23 HT rfl HF ?_; clear HF a; intro a HF
    refine r2_ 3 10 31 1047 HT (fun K_ hK_ => ?_) (fun K_ hK_ => ?_)
    refine kc HF g0 Try.func52 (by kernel_rfl) ?_; (with_reducible refine (pick_c (cpM HM hU) (by omega) _).mono ?_); rintro e w1 ⟨r, nn, cs1, rfl, hr_, hC⟩; refine ⟨_, rfl, ?_⟩; replace HM := cuM HM hC; have hU := hC.cu; clear HF a; intro a HF; refine hK_ _ _ (HM.sub (by repeat (first | exact List.Sublist.refl _ | exact List.nil_sublist _ | apply List.Sublist.cons_cons | apply List.Sublist.cons)) (by repeat (first | exact List.Sublist.refl _ | exact List.nil_sublist _ | apply List.Sublist.cons_cons | apply List.Sublist.cons))) ?_; clear hK_ K_ HS; intro HS
    refine r2_ 5 10 63 1055 HT (fun K_ hK_ => ?_) (fun K_ hK_ => ?_)
    refine kc HF g0 Try.func52 (by kernel_rfl) ?_; (with_reducible refine (pick_c (cpM HM hU) (by omega) _).mono ?_); rintro e w1 ⟨r, nn, cs1, rfl, hr_, hC⟩; refine ⟨_, rfl, ?_⟩; replace HM := cuM HM hC; have hU := hC.cu; clear HF a; intro a HF; refine hK_ _ _ (HM.sub (by repeat (first | exact List.Sublist.refl _ | exact List.nil_sublist _ | apply List.Sublist.cons_cons | apply List.Sublist.cons)) (by repeat (first | exact List.Sublist.refl _ | exact List.nil_sublist _ | apply List.Sublist.cons_cons | apply List.Sublist.cons))) ?_; clear hK_ K_ HS; intro HS
    refine r2_ 6 10 127 1087 HT (fun K_ hK_ => ?_) (fun K_ hK_ => ?_)
    refine kc HF g0 Try.func17 (by kernel_rfl) ?_; (with_reducible refine (mk.run _ _ _ _ _ _).mono ?_); rintro e w1 ⟨s, l, ok, Al, cl_, rfl, hR_, hl_, hb_⟩; refine ⟨_, rfl, ?_⟩; replace HM := HM.row hR_ hb_; clear HF a; intro a HF; refine hK_ _ _ (HM.sub (by repeat (first | exact List.Sublist.refl _ | exact List.nil_sublist _ | apply List.Sublist.cons_cons | apply List.Sublist.cons)) (by repeat (first | exact List.Sublist.refl _ | exact List.nil_sublist _ | apply List.Sublist.cons_cons | apply List.Sublist.cons))) ?_; clear hK_ K_ HS; intro HS
    refine pA 7 255 HT rfl HF ?_; clear HF a; intro a HF
    refine pA 8 511 HT rfl HF ?_; clear HF a; intro a HF
    refine pA 9 1023 HT rfl HF ?_; clear HF a; intro a HF
    refine r1_ 10 2047 HT (fun K_ hK_ => ?_); refine ka az31 HF HM ?_; clear HF HM a; intro g a w HF HM; refine hK_ _ _ (HM.sub (by repeat (first | exact List.Sublist.refl _ | exact List.nil_sublist _ | apply List.Sublist.cons_cons | apply List.Sublist.cons)) (by repeat (first | exact List.Sublist.refl _ | exact List.nil_sublist _ | apply List.Sublist.cons_cons | apply List.Sublist.cons))) ?_; clear hK_ K_ HS; intro HS
    refine r1_ 11 4095 HT (fun K_ hK_ => ?_); refine ks HF HM ?_; clear HM; intro w HM; refine hK_ _ _ (HM.sub (by repeat (first | exact List.Sublist.refl _ | exact List.nil_sublist _ | apply List.Sublist.cons_cons | apply List.Sublist.cons)) (by repeat (first | exact List.Sublist.refl _ | exact List.nil_sublist _ | apply List.Sublist.cons_cons | apply List.Sublist.cons))) ?_; clear hK_ K_ HS; intro HS
    refine pA 12 8191 HT rfl HF ?_; clear HF a; intro a HF
    refine dc HT ?_
    rotate_left
    refine ka az31 HF HM ?_; clear HF HM a; intro g a w HF HM; refine hK_ _ _ (HM.sub (by repeat (first | exact List.Sublist.refl _ | exact List.nil_sublist _ | apply List.Sublist.cons_cons | apply List.Sublist.cons)) (by repeat (first | exact List.Sublist.refl _ | exact List.nil_sublist _ | apply List.Sublist.cons_cons | apply List.Sublist.cons))) ?_; clear hK_ K_ HS; intro HS
    refine r1_ 6 1151 HT (fun K_ hK_ => ?_); refine kc HF g0 Try.func17 (by kernel_rfl) ?_; (with_reducible refine (mk.run _ _ _ _ _ _).mono ?_); rintro e w1 ⟨s, l, ok, Al, cl_, rfl, hR_, hl_, hb_⟩; refine ⟨_, rfl, ?_⟩; replace HM := HM.row hR_ hb_; clear HF a; intro a HF; refine hK_ _ _ (HM.sub (by repeat (first | exact List.Sublist.refl _ | exact List.nil_sublist _ | apply List.Sublist.cons_cons | apply List.Sublist.cons)) (by repeat (first | exact List.Sublist.refl _ | exact List.nil_sublist _ | apply List.Sublist.cons_cons | apply List.Sublist.cons))) ?_; clear hK_ K_ HS; intro HS
    refine pA 7 1279 HT rfl HF ?_; clear HF a; intro a HF
    refine pA 8 1535 HT rfl HF ?_; clear HF a; intro a HF
    refine pA 9 2047 HT rfl HF ?_; clear HF a; intro a HF
    refine r1_ 11 4095 HT (fun K_ hK_ => ?_); refine ks HF HM ?_; clear HM; intro w HM; refine hK_ _ _ (HM.sub (by repeat (first | exact List.Sublist.refl _ | exact List.nil_sublist _ | apply List.Sublist.cons_cons | apply List.Sublist.cons)) (by repeat (first | exact List.Sublist.refl _ | exact List.nil_sublist _ | apply List.Sublist.cons_cons | apply List.Sublist.cons))) ?_; clear hK_ K_ HS; intro HS
    refine pA 12 8191 HT rfl HF ?_; clear HF a; intro a HF
    refine dc HT ?_
    rotate_left
    refine ka az31 HF HM ?_; clear HF HM a; intro g a w HF HM; refine hK_ _ _ (HM.sub (by repeat (first | exact List.Sublist.refl _ | exact List.nil_sublist _ | apply List.Sublist.cons_cons | apply List.Sublist.cons)) (by repeat (first | exact List.Sublist.refl _ | exact List.nil_sublist _ | apply List.Sublist.cons_cons | apply List.Sublist.cons))) ?_; clear hK_ K_ HS; intro HS
    refine r1_ 5 1087 HT (fun K_ hK_ => ?_); refine kc HF g0 Try.func52 (by kernel_rfl) ?_; (with_reducible refine (pick_c (cpM HM hU) (by omega) _).mono ?_); rintro e w1 ⟨r, nn, cs1, rfl, hr_, hC⟩; refine ⟨_, rfl, ?_⟩; replace HM := cuM HM hC; have hU := hC.cu; clear HF a; intro a HF; refine hK_ _ _ (HM.sub (by repeat (first | exact List.Sublist.refl _ | exact List.nil_sublist _ | apply List.Sublist.cons_cons | apply List.Sublist.cons)) (by repeat (first | exact List.Sublist.refl _ | exact List.nil_sublist _ | apply List.Sublist.cons_cons | apply List.Sublist.cons))) ?_; clear hK_ K_ HS; intro HS
    refine r1_ 6 1151 HT (fun K_ hK_ => ?_); refine kc HF g0 Try.func17 (by kernel_rfl) ?_; (with_reducible refine (mk.run _ _ _ _ _ _).mono ?_); rintro e w1 ⟨s, l, ok, Al, cl_, rfl, hR_, hl_, hb_⟩; refine ⟨_, rfl, ?_⟩; replace HM := HM.row hR_ hb_; clear HF a; intro a HF; refine hK_ _ _ (HM.sub (by repeat (first | exact List.Sublist.refl _ | exact List.nil_sublist _ | apply List.Sublist.cons_cons | apply List.Sublist.cons)) (by repeat (first | exact List.Sublist.refl _ | exact List.nil_sublist _ | apply List.Sublist.cons_cons | apply List.Sublist.cons))) ?_; clear hK_ K_ HS; intro HS
    refine pA 7 1279 HT rfl HF ?_; clear HF a; intro a HF
    refine pA 8 1535 HT rfl HF ?_; clear HF a; intro a HF
    refine pA 9 2047 HT rfl HF ?_; clear HF a; intro a HF
    refine r1_ 11 4095 HT (fun K_ hK_ => ?_); refine ks HF HM ?_; clear HM; intro w HM; refine hK_ _ _ (HM.sub (by repeat (first | exact List.Sublist.refl _ | exact List.nil_sublist _ | apply List.Sublist.cons_cons | apply List.Sublist.cons)) (by repeat (first | exact List.Sublist.refl _ | exact List.nil_sublist _ | apply List.Sublist.cons_cons | apply List.Sublist.cons))) ?_; clear hK_ K_ HS; intro HS
    refine pA 12 8191 HT rfl HF ?_; clear HF a; intro a HF
    refine dc HT ?_
    rotate_left
    refine ka az31 HF HM ?_; clear HF HM a; intro g a w HF HM; refine hK_ _ _ (HM.sub (by repeat (first | exact List.Sublist.refl _ | exact List.nil_sublist _ | apply List.Sublist.cons_cons | apply List.Sublist.cons)) (by repeat (first | exact List.Sublist.refl _ | exact List.nil_sublist _ | apply List.Sublist.cons_cons | apply List.Sublist.cons))) ?_; clear hK_ K_ HS; intro HS
    refine r1_ 3 1055 HT (fun K_ hK_ => ?_); refine kc HF g0 Try.func52 (by kernel_rfl) ?_; (with_reducible refine (pick_c (cpM HM hU) (by omega) _).mono ?_); rintro e w1 ⟨r, nn, cs1, rfl, hr_, hC⟩; refine ⟨_, rfl, ?_⟩; replace HM := cuM HM hC; have hU := hC.cu; clear HF a; intro a HF; refine hK_ _ _ (HM.sub (by repeat (first | exact List.Sublist.refl _ | exact List.nil_sublist _ | apply List.Sublist.cons_cons | apply List.Sublist.cons)) (by repeat (first | exact List.Sublist.refl _ | exact List.nil_sublist _ | apply List.Sublist.cons_cons | apply List.Sublist.cons))) ?_; clear hK_ K_ HS; intro HS
    refine r1_ 5 1087 HT (fun K_ hK_ => ?_); refine kc HF g0 Try.func52 (by kernel_rfl) ?_; (with_reducible refine (pick_c (cpM HM hU) (by omega) _).mono ?_); rintro e w1 ⟨r, nn, cs1, rfl, hr_, hC⟩; refine ⟨_, rfl, ?_⟩; replace HM := cuM HM hC; have hU := hC.cu; clear HF a; intro a HF; refine hK_ _ _ (HM.sub (by repeat (first | exact List.Sublist.refl _ | exact List.nil_sublist _ | apply List.Sublist.cons_cons | apply List.Sublist.cons)) (by repeat (first | exact List.Sublist.refl _ | exact List.nil_sublist _ | apply List.Sublist.cons_cons | apply List.Sublist.cons))) ?_; clear hK_ K_ HS; intro HS
    refine r1_ 6 1151 HT (fun K_ hK_ => ?_); refine kc HF g0 Try.func17 (by kernel_rfl) ?_; (with_reducible refine (mk.run _ _ _ _ _ _).mono ?_); rintro e w1 ⟨s, l, ok, Al, cl_, rfl, hR_, hl_, hb_⟩; refine ⟨_, rfl, ?_⟩; replace HM := HM.row hR_ hb_; clear HF a; intro a HF; refine hK_ _ _ (HM.sub (by repeat (first | exact List.Sublist.refl _ | exact List.nil_sublist _ | apply List.Sublist.cons_cons | apply List.Sublist.cons)) (by repeat (first | exact List.Sublist.refl _ | exact List.nil_sublist _ | apply List.Sublist.cons_cons | apply List.Sublist.cons))) ?_; clear hK_ K_ HS; intro HS
    refine pA 7 1279 HT rfl HF ?_; clear HF a; intro a HF
    refine pA 8 1535 HT rfl HF ?_; clear HF a; intro a HF
    refine pA 9 2047 HT rfl HF ?_; clear HF a; intro a HF
    refine r1_ 11 4095 HT (fun K_ hK_ => ?_); refine ks HF HM ?_; clear HM; intro w HM; refine hK_ _ _ (HM.sub (by repeat (first | exact List.Sublist.refl _ | exact List.nil_sublist _ | apply List.Sublist.cons_cons | apply List.Sublist.cons)) (by repeat (first | exact List.Sublist.refl _ | exact List.nil_sublist _ | apply List.Sublist.cons_cons | apply List.Sublist.cons))) ?_; clear hK_ K_ HS; intro HS
    refine pA 12 8191 HT rfl HF ?_; clear HF a; intro a HF
    refine dc HT ?_
    rotate_left
    all_goals
      refine dw2 (n := 12) (ds := [11]) (bs' := [⟨_, 31, [.int .i64 s, .slice Al l.length cl_]⟩, ⟨_, 41, [.int .i64 _, .int .i64 _]⟩]) (rs' := []) hard.tab7 hard.bits7 HM (by repeat (first | exact List.Sublist.refl _ | exact List.nil_sublist _ | apply List.Sublist.cons_cons | apply List.Sublist.cons)) (by repeat (first | exact List.Sublist.refl _ | exact List.nil_sublist _ | apply List.Sublist.cons_cons | apply List.Sublist.cons)) ?_; clear HM; intro w HM HT HW; have HS := HM.sub (bs' := [⟨_, 31, [.int .i64 s, .slice Al l.length cl_]⟩, ⟨_, 41, [.int .i64 _, .int .i64 _]⟩]) (rs' := []) (by repeat (first | exact List.Sublist.refl _ | exact List.nil_sublist _ | apply List.Sublist.cons_cons | apply List.Sublist.cons)) (by repeat (first | exact List.Sublist.refl _ | exact List.nil_sublist _ | apply List.Sublist.cons_cons | apply List.Sublist.cons))
      refine pA 0 1 HT rfl HF ?_; clear HF a; intro a HF
      refine pB 1 3 HT rfl HW HF HS ?_; clear HF a; intro a HF
      refine pB 2 7 HT rfl HW HF HS ?_; clear HF a; intro a HF
      refine pB 3 15 HT rfl HW HF HS ?_; clear HF a; intro a HF
      refine pB 5 47 HT rfl HW HF HS ?_; clear HF a; intro a HF
      refine pB 6 111 HT rfl HW HF HS ?_; clear HF a; intro a HF
      refine r1_ 4 127 HT (fun K_ hK_ => ?_); refine kc HF g0 Try.func61 (by kernel_rfl) ?_; (with_reducible refine (pz.run _ _ _ _ _ _ (by omega) (by omega) (by omega) (by omega) (by omega)).mono ?_); rintro e w1 ⟨q0, q1, q2, q3, rfl, hb_⟩; refine ⟨_, rfl, ?_⟩; replace HM := HM.call hb_; clear HF a; intro a HF; refine hK_ _ _ (HM.sub (by repeat (first | exact List.Sublist.refl _ | exact List.nil_sublist _ | apply List.Sublist.cons_cons | apply List.Sublist.cons)) (by repeat (first | exact List.Sublist.refl _ | exact List.nil_sublist _ | apply List.Sublist.cons_cons | apply List.Sublist.cons))) ?_; clear hK_ K_ HS; intro HS
      refine r1_ 7 255 HT (fun K_ hK_ => ?_); refine kc HF g0 Try.func61 (by kernel_rfl) ?_; (with_reducible refine (pz.run _ _ _ _ _ _ (by omega) (by omega) (by omega) (by omega) (by omega)).mono ?_); rintro e w1 ⟨q0, q1, q2, q3, rfl, hb_⟩; refine ⟨_, rfl, ?_⟩; replace HM := HM.call hb_; clear HF a; intro a HF; refine hK_ _ _ (HM.sub (by repeat (first | exact List.Sublist.refl _ | exact List.nil_sublist _ | apply List.Sublist.cons_cons | apply List.Sublist.cons)) (by repeat (first | exact List.Sublist.refl _ | exact List.nil_sublist _ | apply List.Sublist.cons_cons | apply List.Sublist.cons))) ?_; clear hK_ K_ HS; intro HS
      refine r1_ 8 511 HT (fun K_ hK_ => ?_); refine kl (lzC2 _ _ _ _ _ _ _ _) HF HM ?_; clear HF HM a; intro Al cl_ a w HF HM; refine hK_ _ _ (HM.sub (by repeat (first | exact List.Sublist.refl _ | exact List.nil_sublist _ | apply List.Sublist.cons_cons | apply List.Sublist.cons)) (by repeat (first | exact List.Sublist.refl _ | exact List.nil_sublist _ | apply List.Sublist.cons_cons | apply List.Sublist.cons))) ?_; clear hK_ K_ HS; intro HS
      refine r1_ 9 1023 HT (fun K_ hK_ => ?_); refine kar apC HF HM ?_ (hl := by (simp only [List.length_append, List.length_cons, List.length_nil]; omega)); clear HF HM a; intro Al cl_ a w HF HM; refine hK_ _ _ (HM.sub (by repeat (first | exact List.Sublist.refl _ | exact List.nil_sublist _ | apply List.Sublist.cons_cons | apply List.Sublist.cons)) (by repeat (first | exact List.Sublist.refl _ | exact List.nil_sublist _ | apply List.Sublist.cons_cons | apply List.Sublist.cons))) ?_; clear hK_ K_ HS; intro HS
      refine pA 10 2047 HT rfl HF ?_; clear HF a; intro a HF
      refine r1l_ 11 4095 HT (fun K_ hK_ => ?_); refine ks HF HM ?_; clear HM; intro w HM; refine hK_ _ _ ?_; clear hK_ K_ HS
      refine dc HT ?_
      (repeat (first | (refine sA HF ?_; clear HF a; intro a HF) | (refine sB HF HM ?_; clear HF a; intro a HF) | (refine aA HF HM ?_; clear HF HM a; intro g a w HF HM) | (refine so HF HM ?_; clear HM; intro w HM) | refine gy HF ?_ | ((first | refine gn HF ?_ | refine gu HF ?_); clear HF a; intro a HF) | refine rn ?_ | refine rg ?_))
      refine rt ?_; (repeat (first | refine tr ?_ | refine tb ?_)); exact rS HF rfl (vc st31 HF HM .nil) ⟨_, _, _, _, rfl, HM.R_ 0, (by first | omega | (simp only [List.length_append, List.length_cons, List.length_nil]; omega)), HM.bel⟩
end Go.Proofs.Ytoeclfihlhmnpaa.Hd
