/- A small logic of frames and boxes for long walks: what a frame's slots hold is a list, what the call's own boxes and rows hold are lists; each operation is one lemma. -/
import Derived.Test.YtoeclfihlhmnpaaXA
namespace Go.Proofs.Ytoeclfihlhmnpaa.Ex
open Go Go.RowKit Go.Proofs.Ytoeclfihlhmnpaa.XW Go.Proofs.YtoeclfihlhmnpaaW.PrintWords Go.Proofs.YtoeclfihlhmnpaaW.PrintLast
set_option linter.unusedVariables false

def gt : List (Nat × Value) → Nat → Option Value
  | [], _ => none
  | (m, v) :: F, n => match Nat.beq m n with | true => some v | false => gt F n
def nth : List Value → Nat → Option Value
  | [], _ => none
  | v :: _, 0 => some v
  | _ :: vs, n + 1 => nth vs n
theorem nth_eq : ∀ (l : List Value) (n : Nat), l[n]? = nth l n
  | [], _ => rfl
  | _ :: _, 0 => rfl
  | _ :: vs, n + 1 => nth_eq vs n
def ev (F : List (Nat × Value)) : Operand → Option Value
  | .tmp t => gt F t
  | .const v => some v
  | .global g => some (.pointer (some ⟨g, 0, none⟩))
  | .func f => some (.func (.func f) #[] #[])
def evs (F : List (Nat × Value)) : List Operand → Option (List Value)
  | [] => some []
  | x :: xs => match ev F x, evs F xs with | some v, some vs => some (v :: vs) | _, _ => none
/-- The frame has N slots; it holds what the list says (of two entries of one slot the first). -/
structure Fr (N : Nat) (a : Act) (F : List (Nat × Value)) : Prop where
  sz : a.tmps.size = N
  df : a.defers = []
  has : ∀ n v, gt F n = some v → a.tmps.getD n undef = v
def num : Nat → List Value → List (Nat × Value)
  | _, [] => []
  | n, v :: vs => (n, v) :: num (n + 1) vs
section
variable {N d : Nat} {a : Act} {F : List (Nat × Value)} {v : Value}
theorem Fr.eval (h : Fr N a F) {x : Operand} (hx : ev F x = some v) : a.eval x = v := by
  cases x with
  | tmp t => exact h.has t v hx
  | const u => exact Option.some.inj hx
  | global g => exact Option.some.inj hx
  | func f => exact Option.some.inj hx
theorem Fr.evals (h : Fr N a F) {xs : List Operand} : ∀ {vs : List Value}, evs F xs = some vs → xs.map a.eval = vs := by
  induction xs with
  | nil => intro vs hv; exact Option.some.inj hv
  | cons x xs ih =>
    intro vs hv
    unfold evs at hv
    split at hv
    · rename_i u us hu hus
      obtain rfl := Option.some.inj hv
      rw [List.map_cons, h.eval hu, ih hus]
    · cases hv
theorem Fr.put (h : Fr N a F) (hd : d < N) (v : Value) : Fr N (a.put (some d) v) ((d, v) :: F) := by
  refine ⟨by simp only [Act.put, Array.size_setIfInBounds]; exact h.sz, h.df, fun n u hu => ?_⟩
  simp only [Act.put, Array.getD_eq_getD_getElem?, Array.getElem?_setIfInBounds]
  unfold gt at hu
  cases hb : Nat.beq d n with
  | true =>
    have hdn : d = n := Nat.eq_of_beq_eq_true hb
    subst hdn
    rw [hb] at hu
    rw [if_pos rfl, if_pos (by rw [h.sz]; exact hd)]
    exact Option.some.inj hu
  | false =>
    have hdn : d ≠ n := fun e => by rw [e, Nat.beq_refl] at hb; cases hb
    rw [hb] at hu
    rw [if_neg hdn]
    have := h.has n u hu
    rwa [Array.getD_eq_getD_getElem?] at this
theorem wr {x : Int} (h1 : -9223372036854775808 ≤ x := by omega) (h2 : x ≤ 9223372036854775807 := by omega) : IntKind.i64.wrap x = x := by
  rw [i64_w]; unfold wrap64; omega
/-- What a shorter list says is said by the longer one. -/
inductive Sb (F : List (Nat × Value)) : List (Nat × Value) → Prop
  | nil : Sb F []
  | cons {n : Nat} {v : Value} {G : List (Nat × Value)} (h : gt F n = some v) (hs : Sb F G) : Sb F ((n, v) :: G)
theorem Fr.sub (h : Fr N a F) {G : List (Nat × Value)} (hG : Sb F G := by repeat (first | exact Sb.nil | refine Sb.cons rfl ?_)) : Fr N a G := by
  refine ⟨h.sz, h.df, fun n u hu => h.has n u ?_⟩
  induction hG with
  | nil => cases hu
  | @cons m v G hm hs ih =>
    unfold gt at hu
    cases hb : Nat.beq m n with
    | true =>
      rw [hb] at hu
      obtain rfl := Nat.eq_of_beq_eq_true hb
      rw [hm]
      exact hu
    | false => rw [hb] at hu; exact ih hu
theorem Fr.re (h : Fr N a ((d, v) :: F)) {u : Value} (e : v = u) : Fr N a ((d, u) :: F) := e ▸ h
theorem num_lt : ∀ (vs : List Value) (k n : Nat) (v : Value), gt (num k vs) n = some v → k ≤ n ∧ vs[n - k]? = some v
  | [], _, _, _, h => by cases h
  | u :: us, k, n, v, h => by
    unfold num gt at h
    cases hb : Nat.beq k n with
    | true =>
      rw [hb] at h
      obtain rfl := Nat.eq_of_beq_eq_true hb
      simpa using h
    | false =>
      rw [hb] at h
      obtain ⟨h1, h2⟩ := num_lt us (k + 1) n v h
      refine ⟨by omega, ?_⟩
      rw [show n - k = (n - (k + 1)) + 1 by omega, List.getElem?_cons_succ]
      exact h2
theorem Fr.start (vs : List Value) (hl : vs.length ≤ N) : Fr N ⟨vs.toArray ++ Array.replicate (N - vs.toArray.size) undef, []⟩ (num 0 vs) := by
  refine ⟨by simp; omega, rfl, fun n u hu => ?_⟩
  obtain ⟨_, h2⟩ := num_lt vs 0 n u hu
  have h3 : n < vs.length := (List.getElem?_eq_some_iff.1 h2).1
  simp only [Array.getD_eq_getD_getElem?]
  rw [Array.getElem?_append_left (by simpa using h3)]
  simp only [List.getElem?_toArray]
  rw [Nat.sub_zero] at h2
  rw [h2]
  rfl
end
/-- A box of the call's own: where, of what type, what stands in it. -/
structure Bx where
  g : Nat
  t : Nat
  cs : List Value
/-- A row of the call's own. -/
structure Rw where
  {α : Type}
  d : Kd α
  e : Nat
  v : Value
  xs : List α
/-- What stands in memory. w0: the call's start; W0: an elder world, below which nothing turns; S: the one elder block that may be written. -/
structure Me (W0 w0 : World) (S : Option Nat) (w : World) (bs : List Bx) (rs : List Rw) : Prop where
  bel : Below W0.heap.size W0 w
  hi : W0.heap.size ≤ w0.heap.size
  sz : w0.heap.size ≤ w.heap.size
  kp : ∀ i, i < w0.heap.size → some i ≠ S → w.heap[i]? = w0.heap[i]?
  box : ∀ x ∈ bs, (w0.heap.size ≤ x.g ∨ (some x.g = S ∧ W0.heap.size ≤ x.g)) ∧ w.heap[x.g]? = some (.cells x.cs.toArray x.t (0, 0))
  ne : bs.Pairwise fun x y => x.g ≠ y.g
  rows : ∀ r ∈ rs, r.d.E = [] ∧ r.d.R r.e w w0.heap.size (fun _ => True) r.v r.xs
  far : ∀ r ∈ rs, ∀ x ∈ bs, some x.g ≠ r.v.ownBlock
namespace Me
variable {W0 w0 w w1 : World} {S : Option Nat} {bs : List Bx} {rs : List Rw}
theorem start (w : World) : Me w w none w [] [] := ⟨Below.refl _ _, Nat.le_refl _, Nat.le_refl _, fun _ _ _ => rfl, (fun _ h => absurd h List.not_mem_nil), List.Pairwise.nil, (fun _ h => absurd h List.not_mem_nil), (fun _ h => absurd h List.not_mem_nil)⟩
theorem below (h : Me W0 w0 none w bs rs) (e : W0 = w0) : Below w0.heap.size w0 w := e ▸ h.bel
theorem call (h : Me W0 w0 S w bs rs) (hb : Below w.heap.size w w1) : Me W0 w0 S w1 bs rs where
  bel := below_step h.bel hb
  hi := h.hi
  sz := Nat.le_trans h.sz hb.size
  kp := fun i hi hs => (hb.block i (Nat.lt_of_lt_of_le hi h.sz)).trans (h.kp i hi hs)
  box := fun x hx => ⟨(h.box x hx).1, blk_below (h.box x hx).2 hb⟩
  ne := h.ne
  rows := fun r hr => ⟨(h.rows r hr).1, Kd.R_below (h.rows r hr).2 hb⟩
  far := h.far
theorem new (h : Me W0 w0 S w bs rs) {g : Nat} {t : TypeId} {cs : List Value} (hg : g = w.heap.size) (hc : w1.heap[g]? = some (.cells cs.toArray t (0, 0))) (hb : Below w.heap.size w w1) : Me W0 w0 S w1 (⟨g, t, cs⟩ :: bs) rs := by
  have h1 := h.call hb
  refine ⟨h1.bel, h1.hi, h1.sz, h1.kp, fun x hx => ?_, List.pairwise_cons.2 ⟨fun x hx => ?_, h.ne⟩, h1.rows, fun r hr x hx => ?_⟩
  · rcases List.mem_cons.1 hx with rfl | hx
    · exact ⟨Or.inl (by rw [hg]; exact h.sz), hc⟩
    · exact h1.box x hx
  · have := blk_lt (h.box x hx).2
    show g ≠ x.g
    omega
  · rcases List.mem_cons.1 hx with rfl | hx
    · intro e
      obtain ⟨inner, ho⟩ := Kd.R_own (h.rows r hr).2
      have hl : g < w.heap.size := own_lt ho _ e.symm
      omega
    · exact h.far r hr x hx
theorem row {α : Type} {d : Kd α} {e : Nat} {v : Value} {xs : List α} (h : Me W0 w0 S w bs rs) (hr : d.R e w1 w.heap.size (fun _ => True) v xs) (hb : Below w.heap.size w w1) (hE : d.E = [] := by rfl) : Me W0 w0 S w1 bs (⟨d, e, v, xs⟩ :: rs) := by
  have h1 := h.call hb
  refine ⟨h1.bel, h1.hi, h1.sz, h1.kp, h1.box, h1.ne, fun r hr' => ?_, fun r hr' x hx => ?_⟩
  · rcases List.mem_cons.1 hr' with rfl | hr'
    · exact ⟨hE, Kd.R_lower hr h.sz⟩
    · exact h1.rows r hr'
  · rcases List.mem_cons.1 hr' with rfl | hr'
    · intro e
      obtain ⟨inner, ho⟩ := Kd.R_own hr
      have := own_base ho _ e.symm
      have := blk_lt (h.box x hx).2
      omega
    · exact h.far r hr' x hx
/-- Box number k alone is written. -/
theorem upd (h : Me W0 w0 S w bs rs) {k g t : Nat} {cs cs' : List Value} (hk : bs[k]? = some ⟨g, t, cs⟩) (hsz : w.heap.size ≤ w1.heap.size) (ho : ∀ i, i < w.heap.size → i ≠ g → w1.heap[i]? = w.heap[i]?) (hc : w1.heap[g]? = some (.cells cs'.toArray t (0, 0))) (hb : Below W0.heap.size W0 w1) : Me W0 w0 S w1 (bs.set k ⟨g, t, cs'⟩) rs := by
  have hm : (⟨g, t, cs⟩ : Bx) ∈ bs := List.mem_of_getElem? hk
  obtain ⟨hkl, hke⟩ := List.getElem?_eq_some_iff.1 hk
  have hg := (h.box _ hm).1
  have hmem : ∀ x ∈ bs.set k ⟨g, t, cs'⟩, x = ⟨g, t, cs'⟩ ∨ (x ∈ bs ∧ x.g ≠ g) := by
    intro x hx
    obtain ⟨j, hj⟩ := List.mem_iff_getElem?.1 hx
    rw [List.getElem?_set] at hj
    by_cases hkj : k = j
    · subst hkj
      rw [if_pos rfl, if_pos hkl] at hj
      exact Or.inl (Option.some.inj hj).symm
    · rw [if_neg hkj] at hj
      refine Or.inr ⟨List.mem_of_getElem? hj, ?_⟩
      obtain ⟨hjl, hje⟩ := List.getElem?_eq_some_iff.1 hj
      have hp := List.pairwise_iff_getElem.1 h.ne
      rcases Nat.lt_or_gt_of_ne hkj with hlt | hlt
      · have := hp k j hkl hjl hlt
        rw [hke, hje] at this
        exact fun e => this e.symm
      · have := hp j k hjl hkl hlt
        rw [hke, hje] at this
        exact this
  have hgs : (bs.set k ⟨g, t, cs'⟩).map Bx.g = bs.map Bx.g := by
    rw [List.map_set]
    apply List.ext_getElem?
    intro j
    rw [List.getElem?_set]
    by_cases hkj : k = j
    · subst hkj
      rw [if_pos rfl, if_pos (by simpa using hkl), List.getElem?_map, hk]
      rfl
    · rw [if_neg hkj]
  refine ⟨hb, h.hi, Nat.le_trans h.sz hsz, fun i hi hs => ?_, fun x hx => ?_, ?_, fun r hr => ?_, fun r hr x hx => ?_⟩
  · by_cases e : i = g
    · subst e
      rcases hg with hg | hg
      · exact absurd hi (Nat.not_lt.2 hg)
      · exact absurd hg.1 hs
    · exact (ho i (Nat.lt_of_lt_of_le hi h.sz) e).trans (h.kp i hi hs)
  · rcases hmem x hx with rfl | ⟨hx', hne⟩
    · exact ⟨hg, hc⟩
    · exact ⟨(h.box x hx').1, (ho _ (blk_lt (h.box x hx').2) hne).trans (h.box x hx').2⟩
  · have h1 : (bs.map Bx.g).Pairwise (· ≠ ·) := List.pairwise_map.2 h.ne
    rw [← hgs] at h1
    exact List.pairwise_map.1 h1
  · obtain ⟨hE, hR⟩ := h.rows r hr
    refine ⟨hE, Kd.R_mono (Kd.R_step (Kd.R_far1 hR hE (h.far r hr _ hm)) (fun i hi hlt => ho i hlt hi.2)) (fun _ _ => trivial)⟩
  · rcases hmem x hx with rfl | ⟨hx', _⟩
    · exact h.far r hr ⟨g, t, cs⟩ hm
    · exact h.far r hr x hx'
theorem cur (h : Me W0 w0 S w bs rs) {k g t : Nat} {cs cs' : List Value} (hk : bs[k]? = some ⟨g, t, cs⟩) (hkp : KeepBut w w1 g none) (hc : w1.heap[g]? = some (.cells cs'.toArray t (0, 0))) (hb : Below W0.heap.size W0 w1) : Me W0 w0 S w1 (bs.set k ⟨g, t, cs'⟩) rs :=
  h.upd hk hkp.1 (fun i hi hne => hkp.2 i hi hne (by simp)) hc hb
theorem at_ (h : Me W0 w0 S w bs rs) {k g t : Nat} {cs : List Value} (hk : bs[k]? = some ⟨g, t, cs⟩) : w.heap[g]? = some (.cells cs.toArray t (0, 0)) := (h.box _ (List.mem_of_getElem? hk)).2
theorem ge (h : Me W0 w0 S w bs rs) {k g t : Nat} {cs : List Value} (hk : bs[k]? = some ⟨g, t, cs⟩) : W0.heap.size ≤ g := by
  rcases (h.box _ (List.mem_of_getElem? hk)).1 with h1 | h1
  · exact Nat.le_trans h.hi h1
  · exact h1.2
theorem R_ {α : Type} {d : Kd α} {e : Nat} {v : Value} {xs : List α} (h : Me W0 w0 S w bs rs) (k : Nat) (hk : rs[k]? = some ⟨d, e, v, xs⟩ := by rfl) : d.R e w w0.heap.size (fun _ => True) v xs := (h.rows _ (List.mem_of_getElem? hk)).2
theorem C_ {α : Type} {d : Kd α} {e : Nat} {A : Option Addr} {n c : Nat} {xs : List α} (h : Me W0 w0 S w bs rs) (k : Nat) (hk : rs[k]? = some ⟨d, e, .slice A n c, xs⟩ := by rfl) : n = xs.length ∧ n ≤ c ∧ d.C w A xs.length xs := Kd.R_reads' (h.R_ k hk)
theorem C1 {α : Type} {d : Kd α} {e : Nat} {A : Option Addr} {n c : Nat} {xs : List α} (h : Me W0 w0 S w bs rs) (hm : (⟨d, e, .slice A n c, xs⟩ : Rw) ∈ rs := by repeat (first | exact List.mem_cons_self | apply List.mem_cons_of_mem)) : d.C w A xs.length xs := (Kd.R_reads' (h.rows _ hm).2).2.2
theorem C2 {α : Type} {d : Kd α} {e : Nat} {A : Option Addr} {n c : Nat} {xs : List α} (h : Me W0 w0 S w bs rs) (hm : (⟨d, e, .slice A n c, xs⟩ : Rw) ∈ rs := by repeat (first | exact List.mem_cons_self | apply List.mem_cons_of_mem)) : xs.length ≤ c := by
  have h1 : n = xs.length := (Kd.R_reads' (h.rows _ hm).2).1
  have h2 : n ≤ c := (Kd.R_reads' (h.rows _ hm).2).2.1
  omega
/-- The start of a function that writes one elder box. -/
theorem startC {W0 w : World} {g t : Nat} {cs : List Value} (hb : Below W0.heap.size W0 w) (hg : W0.heap.size ≤ g) (hc : w.heap[g]? = some (.cells cs.toArray t (0, 0))) : Me W0 w (some g) w [⟨g, t, cs⟩] [] :=
  ⟨hb, hb.size, Nat.le_refl _, fun _ _ _ => rfl, fun x hx => by obtain rfl := List.mem_singleton.1 hx; exact ⟨Or.inr ⟨rfl, hg⟩, hc⟩, List.pairwise_singleton _ _, (fun _ h => absurd h List.not_mem_nil), (fun _ h => absurd h List.not_mem_nil)⟩
theorem keep {g : Nat} (h : Me W0 w0 (some g) w bs rs) : KeepBut w0 w g none := ⟨h.sz, fun i hi hg _ => h.kp i hi (fun e => hg (Option.some.inj e))⟩
/-- A box is written by a call. -/
theorem curp {g t : Nat} {cs cs' : List Value} {bs' : List Bx} (h : Me W0 w0 S w bs rs) (hkp : KeepBut w w1 g none) (hc : w1.heap[g]? = some (.cells cs'.toArray t (0, 0))) (hb : Below W0.heap.size W0 w1) (hm : ∃ k, bs[k]? = some ⟨g, t, cs⟩ ∧ bs' = bs.set k ⟨g, t, cs'⟩) : Me W0 w0 S w1 bs' rs := by
  obtain ⟨k, hk, rfl⟩ := hm
  exact h.cur hk hkp hc hb
/-- A row that a call has made beside what else it did. -/
theorem rowU {α : Type} {d : Kd α} {e m : Nat} {v : Value} {xs : List α} (h : Me W0 w0 S w bs rs) (hlt : ∀ x ∈ bs, x.g < m) (hm : w0.heap.size ≤ m) (hR : d.R e w m (fun _ => True) v xs) (hE : d.E = []) : Me W0 w0 S w bs (⟨d, e, v, xs⟩ :: rs) := by
  refine ⟨h.bel, h.hi, h.sz, h.kp, h.box, h.ne, fun r hr => ?_, fun r hr x hx => ?_⟩
  · rcases List.mem_cons.1 hr with rfl | hr
    · exact ⟨hE, Kd.R_lower hR hm⟩
    · exact h.rows r hr
  · rcases List.mem_cons.1 hr with rfl | hr
    · intro e_
      obtain ⟨inner, ho⟩ := Kd.R_own hR
      have h1 := own_base ho _ e_.symm
      have h2 := hlt x hx
      omega
    · exact h.far r hr x hx
/-- A row of nothing. -/
theorem nilrow (h : Me W0 w0 S w bs rs) {α : Type} (d : Kd α) (e : Nat) (hE : d.E = [] := by rfl) : Me W0 w0 S w bs (⟨d, e, .slice none 0 0, []⟩ :: rs) :=
  ⟨h.bel, h.hi, h.sz, h.kp, h.box, h.ne, fun r hr => (List.mem_cons.1 hr).elim (fun e_ => e_ ▸ ⟨hE, Kd.R_nil _ _ _ _ _⟩) (h.rows r), fun r hr x hx => (List.mem_cons.1 hr).elim (fun e_ => e_ ▸ (by simp [Value.ownBlock])) (fun hr => h.far r hr x hx)⟩
/-- The one row that grows has grown. -/
theorem app {α : Type} {d : Kd α} {e : Nat} {v v1 : Value} {xs ys : List α} {rs' : List Rw} (h : Me W0 w0 S w bs (rs' ++ [⟨d, e, v, xs⟩])) (hR : d.R e w1 w0.heap.size (fun _ => True) v1 ys) (hg : w.grownBy w1 v.ownBlock) (hat : v1.ownBlock = v.ownBlock ∨ ∃ b, v1.ownBlock = some b ∧ w.heap.size ≤ b) : Me W0 w0 S w1 bs [⟨d, e, v1, ys⟩] := by
  have hm : (⟨d, e, v, xs⟩ : Rw) ∈ rs' ++ [⟨d, e, v, xs⟩] := List.mem_append_right _ List.mem_cons_self
  have hv : ∀ k, v.ownBlock = some k → w0.heap.size ≤ k := fun k hk => by
    obtain ⟨inner, ho⟩ := Kd.R_own (h.rows _ hm).2
    exact own_base ho k hk
  have hlt : ∀ k, v.ownBlock = some k → k < w.heap.size := fun k hk => by
    obtain ⟨inner, ho⟩ := Kd.R_own (h.rows _ hm).2
    exact own_lt ho k hk
  refine ⟨⟨hg.os.trans h.bel.os, hg.tape.trans h.bel.tape, hg.output.trans h.bel.output, Nat.le_trans h.bel.size hg.size, fun k hk => (hg.block k (Nat.lt_of_lt_of_le hk h.bel.size) (fun e_ => ?_)).trans (h.bel.block k hk)⟩, h.hi, Nat.le_trans h.sz hg.size, fun i hi hs => (hg.block i (Nat.lt_of_lt_of_le hi h.sz) (fun e_ => ?_)).trans (h.kp i hi hs), fun x hx => ⟨(h.box x hx).1, (hg.block _ (blk_lt (h.box x hx).2) (h.far _ hm x hx)).trans (h.box x hx).2⟩, h.ne, fun r hr => ?_, fun r hr x hx e_ => ?_⟩
  · have h1 := hv k e_.symm
    have h2 := h.hi
    omega
  · have h1 := hv i e_.symm
    omega
  · obtain rfl := List.mem_singleton.1 hr
    exact ⟨(h.rows _ hm).1, hR⟩
  · obtain rfl := List.mem_singleton.1 hr
    rcases hat with h1 | ⟨b, h1, h2⟩
    · exact h.far _ hm x hx (by rw [e_, h1])
    · have h3 := blk_lt (h.box x hx).2
      have h4 : some x.g = some b := by rw [e_, h1]
      injection h4 with h4
      omega
/-- Less is known. -/
theorem sub (h : Me W0 w0 S w bs rs) {bs' : List Bx} {rs' : List Rw} (hb : bs'.Sublist bs) (hr : rs'.Sublist rs) : Me W0 w0 S w bs' rs' :=
  ⟨h.bel, h.hi, h.sz, h.kp, fun x hx => h.box x (hb.subset hx), h.ne.sublist hb, fun r hx => h.rows r (hr.subset hx), fun r hx x hy => h.far r (hr.subset hx) x (hb.subset hy)⟩
end Me
/-- The logic's own names for the model's two statements (nothing unfolds them by itself). -/
structure WL (P : Program) (ops : Array Oper) (Q : Exit → Act → World → Prop) (l : List Oper) (a : Act) (w : World) : Prop where
  out : wpList P ops Q l a w
structure WC (P : Program) (c : Code) (Q : Exit → Act → World → Prop) (a : Act) (w : World) : Prop where
  out : c.wp P Q a w
section
variable {P : Program} {ops : Array Oper} {Q : Exit → Act → World → Prop} {rest : List Oper} {N : Nat} {a : Act} {w W0 w0 : World} {S : Option Nat} {F : List (Nat × Value)} {bs : List Bx} {rs : List Rw} {d ty : Nat} {pos : String} {af : Array Edge}
/-- An operation yields v wherever the frame holds F (Rp: whatever stands in memory; Rn: where bs and rs stand in memory). -/
structure Rp (P : Program) (N : Nat) (F : List (Nat × Value)) (o : Op) (v : Value) : Prop where
  run : ∀ (o' : Oper), o'.op = o → ∀ (a : Act) (w : World), Fr N a F → (execOp a.eval o').run P w = .ok (.value v) w
structure Rn (P : Program) (N : Nat) (F : List (Nat × Value)) (W0 w0 : World) (S : Option Nat) (bs : List Bx) (rs : List Rw) (o : Op) (v : Value) : Prop where
  run : ∀ (o' : Oper), o'.op = o → ∀ (a : Act) (w : World), Fr N a F → Me W0 w0 S w bs rs → (execOp a.eval o').run P w = .ok (.value v) w
theorem mvR {x : Operand} {v : Value} (hx : ev F x = some v := by rfl) : Rp P N F (.move x) v := ⟨fun o' ho a w HF => by
  unfold execOp; rw [ho]; simp [HF.eval hx]⟩
theorem asR {x : Operand} {v : Value} (hx : ev F x = some v := by rfl) : Rp P N F (.assign x) v := ⟨fun o' ho a w HF => by
  unfold execOp; rw [ho]; simp [HF.eval hx]⟩
theorem exR {x : Operand} {i : Nat} {v : Value} {vs : List Value} (hx : ev F x = some (.tuple vs.toArray) := by rfl) (hi : nth vs i = some v := by rfl) : Rp P N F (.extract x i) v := ⟨fun o' ho a w HF => by
  unfold execOp; rw [ho]; simp [HF.eval hx, Instr.extract, nth_eq, hi]⟩
theorem pkT {c x y : Operand} {v : Value} {b : Bool} (hc : ev F c = some (.bool b) := by rfl) (hb : b = true := by rfl) (hx : ev F x = some v := by rfl) : Rp P N F (.pick c x y) v := ⟨fun o' ho a w HF => by
  subst hb; unfold execOp; rw [ho]; simp [HF.eval hx, HF.eval hc, asBool]⟩
theorem pkF {c x y : Operand} {v : Value} {b : Bool} (hc : ev F c = some (.bool b) := by rfl) (hb : b = false := by rfl) (hx : ev F y = some v := by rfl) : Rp P N F (.pick c x y) v := ⟨fun o' ho a w HF => by
  subst hb; unfold execOp; rw [ho]; simp [HF.eval hx, HF.eval hc, asBool]⟩
theorem ntR {x : Operand} {b : Bool} {t : Nat} (hx : ev F x = some (.bool b) := by rfl) : Rp P N F (.unOp .not t x) (.bool (!b)) := ⟨fun o' ho a w HF => by
  unfold execOp; rw [ho]; simp [HF.eval hx, Op.unary]⟩
theorem nkR {x : Operand} {ad : Addr} (hx : ev F x = some (.pointer (some ad)) := by rfl) : Rp P N F (.nilCheck x) (.pointer (some ad)) := ⟨fun o' ho a w HF => by
  unfold execOp; rw [ho]; simp [HF.eval hx]⟩
theorem boR {op : BinOp} {t t' : Nat} {x y : Operand} {u v r : Value} (hx : ev F x = some u) (hy : ev F y = some v) (hr : ∀ w, (do eqGuard op t x y u v; binOp op t u v : Sem Value).run P w = .ok r w) : Rp P N F (.binOp op t x y t') r := ⟨fun o' ho a w HF => by
  have := hr w
  unfold execOp
  rw [ho]
  simp only [HF.eval hx, HF.eval hy]
  cases hA : (eqGuard op t x y u v).run P w with
  | ok _ w1 =>
    simp [hA] at this ⊢
    simp [this]
  | halt _ _ => simp [hA] at this⟩
theorem bneR {t t' : Nat} {x y : Operand} {p q : Bool} (hx : ev F x = some (.bool p) := by rfl) (hy : ev F y = some (.bool q) := by rfl) (ht : P.underlying t = some .bool := by kernel_rfl) : Rp P N F (.binOp .neq t x y t') (.bool (p != q)) := boR hx hy (fun w => by go_simp; try (cases p <;> cases q <;> rfl))
theorem beqR {t t' : Nat} {x y : Operand} {p q : Bool} (hx : ev F x = some (.bool p) := by rfl) (hy : ev F y = some (.bool q) := by rfl) (ht : P.underlying t = some .bool := by kernel_rfl) : Rp P N F (.binOp .eql t x y t') (.bool (p == q)) := boR hx hy (fun w => by go_simp; try (cases p <;> cases q <;> rfl))
theorem ineR {t t' : Nat} {x y : Operand} {k : IntKind} {p q : Int} (hx : ev F x = some (.int k p) := by rfl) (hy : ev F y = some (.int k q) := by rfl) : Rp P N F (.binOp .neq t x y t') (.bool (p != q)) := boR hx hy (fun w => by simp [eqGuard, binOp, Op.intCmp])
theorem ieqR {t t' : Nat} {x y : Operand} {k : IntKind} {p q : Int} (hx : ev F x = some (.int k p) := by rfl) (hy : ev F y = some (.int k q) := by rfl) : Rp P N F (.binOp .eql t x y t') (.bool (p == q)) := boR hx hy (fun w => by simp [eqGuard, binOp, Op.intCmp])
theorem iltR {t t' : Nat} {x y : Operand} {k : IntKind} {p q : Int} (hx : ev F x = some (.int k p) := by rfl) (hy : ev F y = some (.int k q) := by rfl) : Rp P N F (.binOp .lss t x y t') (.bool (decide (p < q))) := boR hx hy (fun w => by simp [eqGuard, binOp, Op.intCmp])
theorem igtR {t t' : Nat} {x y : Operand} {k : IntKind} {p q : Int} (hx : ev F x = some (.int k p) := by rfl) (hy : ev F y = some (.int k q) := by rfl) : Rp P N F (.binOp .gtr t x y t') (.bool (decide (q < p))) := boR hx hy (fun w => by simp [eqGuard, binOp, Op.intCmp])
theorem ileR {t t' : Nat} {x y : Operand} {k : IntKind} {p q : Int} (hx : ev F x = some (.int k p) := by rfl) (hy : ev F y = some (.int k q) := by rfl) : Rp P N F (.binOp .leq t x y t') (.bool (decide (p ≤ q))) := boR hx hy (fun w => by simp [eqGuard, binOp, Op.intCmp])
theorem igeR {t t' : Nat} {x y : Operand} {k : IntKind} {p q : Int} (hx : ev F x = some (.int k p) := by rfl) (hy : ev F y = some (.int k q) := by rfl) : Rp P N F (.binOp .geq t x y t') (.bool (decide (q ≤ p))) := boR hx hy (fun w => by simp [eqGuard, binOp, Op.intCmp])
theorem addR {t t' : Nat} {x y : Operand} {k : IntKind} {p q : Int} (hx : ev F x = some (.int k p) := by rfl) (hy : ev F y = some (.int k q) := by rfl) : Rp P N F (.binOp .add t x y t') (.int k (k.wrap (p + q))) := boR hx hy (fun w => by simp [eqGuard, binOp, Op.intArith])
theorem subR {t t' : Nat} {x y : Operand} {k : IntKind} {p q : Int} (hx : ev F x = some (.int k p) := by rfl) (hy : ev F y = some (.int k q) := by rfl) : Rp P N F (.binOp .sub t x y t') (.int k (k.wrap (p - q))) := boR hx hy (fun w => by simp [eqGuard, binOp, Op.intArith])
theorem mulR {t t' : Nat} {x y : Operand} {k : IntKind} {p q : Int} (hx : ev F x = some (.int k p) := by rfl) (hy : ev F y = some (.int k q) := by rfl) : Rp P N F (.binOp .mul t x y t') (.int k (k.wrap (p * q))) := boR hx hy (fun w => by simp [eqGuard, binOp, Op.intArith])
theorem quoR {t t' : Nat} {x y : Operand} {k : IntKind} {p q : Int} (hx : ev F x = some (.int k p) := by rfl) (hy : ev F y = some (.int k q) := by rfl) (hq : q ≠ 0 := by first | decide | omega) : Rp P N F (.binOp .quo t x y t') (.int k (k.wrap (p.tdiv q))) := boR hx hy (fun w => by simp [eqGuard, binOp, Op.intDiv, hq])
theorem remR {t t' : Nat} {x y : Operand} {k : IntKind} {p q : Int} (hx : ev F x = some (.int k p) := by rfl) (hy : ev F y = some (.int k q) := by rfl) (hq : q ≠ 0 := by first | decide | omega) : Rp P N F (.binOp .rem t x y t') (.int k (p.tmod q)) := boR hx hy (fun w => by simp [eqGuard, binOp, Op.intDiv, hq])
theorem bneS {t t' : Nat} {x y : Operand} {p : Bool} (hx : ev F x = some (.bool p) := by rfl) (hy : ev F y = some (.bool p) := by rfl) (ht : P.underlying t = some .bool := by kernel_rfl) : Rp P N F (.binOp .neq t x y t') (.bool false) := boR hx hy (fun w => by go_simp; try (cases p <;> rfl))
theorem beqS {t t' : Nat} {x y : Operand} {p : Bool} (hx : ev F x = some (.bool p) := by rfl) (hy : ev F y = some (.bool p) := by rfl) (ht : P.underlying t = some .bool := by kernel_rfl) : Rp P N F (.binOp .eql t x y t') (.bool true) := boR hx hy (fun w => by go_simp; try (cases p <;> rfl))
theorem ineS {t t' : Nat} {x y : Operand} {k : IntKind} {p : Int} (hx : ev F x = some (.int k p) := by rfl) (hy : ev F y = some (.int k p) := by rfl) : Rp P N F (.binOp .neq t x y t') (.bool false) := boR hx hy (fun w => by simp [eqGuard, binOp, Op.intCmp])
theorem ieqS {t t' : Nat} {x y : Operand} {k : IntKind} {p : Int} (hx : ev F x = some (.int k p) := by rfl) (hy : ev F y = some (.int k p) := by rfl) : Rp P N F (.binOp .eql t x y t') (.bool true) := boR hx hy (fun w => by simp [eqGuard, binOp, Op.intCmp])
theorem ineT {t t' : Nat} {x y : Operand} {k : IntKind} {p q : Int} (hx : ev F x = some (.int k p) := by rfl) (hy : ev F y = some (.int k q) := by rfl) (hh : p ≠ q := by omega) : Rp P N F (.binOp .neq t x y t') (.bool true) := boR hx hy (fun w => by simp [eqGuard, binOp, Op.intCmp, hh])
theorem ieqF {t t' : Nat} {x y : Operand} {k : IntKind} {p q : Int} (hx : ev F x = some (.int k p) := by rfl) (hy : ev F y = some (.int k q) := by rfl) (hh : p ≠ q := by omega) : Rp P N F (.binOp .eql t x y t') (.bool false) := boR hx hy (fun w => by simp [eqGuard, binOp, Op.intCmp, hh])
theorem ineF {t t' : Nat} {x y : Operand} {k : IntKind} {p q : Int} (hx : ev F x = some (.int k p) := by rfl) (hy : ev F y = some (.int k q) := by rfl) (hh : p = q := by omega) : Rp P N F (.binOp .neq t x y t') (.bool false) := boR hx hy (fun w => by simp [eqGuard, binOp, Op.intCmp, hh])
theorem ieqT {t t' : Nat} {x y : Operand} {k : IntKind} {p q : Int} (hx : ev F x = some (.int k p) := by rfl) (hy : ev F y = some (.int k q) := by rfl) (hh : p = q := by omega) : Rp P N F (.binOp .eql t x y t') (.bool true) := boR hx hy (fun w => by simp [eqGuard, binOp, Op.intCmp, hh])
theorem iltT {t t' : Nat} {x y : Operand} {k : IntKind} {p q : Int} (hx : ev F x = some (.int k p) := by rfl) (hy : ev F y = some (.int k q) := by rfl) (hh : p < q := by omega) : Rp P N F (.binOp .lss t x y t') (.bool true) := boR hx hy (fun w => by simp [eqGuard, binOp, Op.intCmp, hh])
theorem iltF {t t' : Nat} {x y : Operand} {k : IntKind} {p q : Int} (hx : ev F x = some (.int k p) := by rfl) (hy : ev F y = some (.int k q) := by rfl) (hh : q ≤ p := by omega) : Rp P N F (.binOp .lss t x y t') (.bool false) := boR hx hy (fun w => by simp [eqGuard, binOp, Op.intCmp, hh])
theorem igtT {t t' : Nat} {x y : Operand} {k : IntKind} {p q : Int} (hx : ev F x = some (.int k p) := by rfl) (hy : ev F y = some (.int k q) := by rfl) (hh : q < p := by omega) : Rp P N F (.binOp .gtr t x y t') (.bool true) := boR hx hy (fun w => by simp [eqGuard, binOp, Op.intCmp, hh])
theorem igtF {t t' : Nat} {x y : Operand} {k : IntKind} {p q : Int} (hx : ev F x = some (.int k p) := by rfl) (hy : ev F y = some (.int k q) := by rfl) (hh : p ≤ q := by omega) : Rp P N F (.binOp .gtr t x y t') (.bool false) := boR hx hy (fun w => by simp [eqGuard, binOp, Op.intCmp, hh])
theorem ileT {t t' : Nat} {x y : Operand} {k : IntKind} {p q : Int} (hx : ev F x = some (.int k p) := by rfl) (hy : ev F y = some (.int k q) := by rfl) (hh : p ≤ q := by omega) : Rp P N F (.binOp .leq t x y t') (.bool true) := boR hx hy (fun w => by simp [eqGuard, binOp, Op.intCmp, hh])
theorem ileF {t t' : Nat} {x y : Operand} {k : IntKind} {p q : Int} (hx : ev F x = some (.int k p) := by rfl) (hy : ev F y = some (.int k q) := by rfl) (hh : q < p := by omega) : Rp P N F (.binOp .leq t x y t') (.bool false) := boR hx hy (fun w => by simp [eqGuard, binOp, Op.intCmp, hh])
theorem addW {t t' : Nat} {x y : Operand} {p q : Int} (hx : ev F x = some (.int .i64 p) := by rfl) (hy : ev F y = some (.int .i64 q) := by rfl) (h1 : -9223372036854775808 ≤ p + q := by omega) (h2 : p + q ≤ 9223372036854775807 := by omega) : Rp P N F (.binOp .add t x y t') (.int .i64 (p + q)) := by
  have := addR (P := P) (N := N) (t := t) (t' := t') hx hy
  rwa [wr h1 h2] at this
theorem subW {t t' : Nat} {x y : Operand} {p q : Int} (hx : ev F x = some (.int .i64 p) := by rfl) (hy : ev F y = some (.int .i64 q) := by rfl) (h1 : -9223372036854775808 ≤ p - q := by omega) (h2 : p - q ≤ 9223372036854775807 := by omega) : Rp P N F (.binOp .sub t x y t') (.int .i64 (p - q)) := by
  have := subR (P := P) (N := N) (t := t) (t' := t') hx hy
  rwa [wr h1 h2] at this
theorem igeT {t t' : Nat} {x y : Operand} {k : IntKind} {p q : Int} (hx : ev F x = some (.int k p) := by rfl) (hy : ev F y = some (.int k q) := by rfl) (hh : q ≤ p := by omega) : Rp P N F (.binOp .geq t x y t') (.bool true) := boR hx hy (fun w => by simp [eqGuard, binOp, Op.intCmp, hh])
theorem igeF {t t' : Nat} {x y : Operand} {k : IntKind} {p q : Int} (hx : ev F x = some (.int k p) := by rfl) (hy : ev F y = some (.int k q) := by rfl) (hh : p < q := by omega) : Rp P N F (.binOp .geq t x y t') (.bool false) := boR hx hy (fun w => by simp [eqGuard, binOp, Op.intCmp, hh])
theorem mfR {f : Fn} {xs : List Operand} {vs : List Value} (he : evs F xs = some vs := by rfl) : Rp P N F (.makeFunc f #[] xs.toArray) (.func f #[] vs.toArray) := ⟨fun o' ho a w HF => by
  have := HF.evals he
  unfold execOp; rw [ho]; simp [Instr.makeFunc, this]⟩
theorem run_len {ρ : Operand → Value} {x : Operand} {A : Option Addr} {n c t : Nat} {o : Oper} (ho : o.op = .call { callee := .builtin .len, args := #[x], argTypes := #[t] }) (hx : ρ x = .slice A n c) (ht : (match P.underlying t with | some (.slice _) => true | _ => false) = true) : (execOp ρ o).run P w = .ok (.value (.int .i64 n)) w := by
  cases hu : P.underlying t with
  | none => rw [hu] at ht; cases ht
  | some u =>
    cases u <;> first | (rw [hu] at ht; cases ht; done) | skip
    unfold execOp
    clear ht
    simp [ho, resolve, invoke, builtin, Builtin.len_, hx, goInt, run_underlying hu]
theorem lnR {x : Operand} {A : Option Addr} {n c t : Nat} (hx : ev F x = some (.slice A n c) := by rfl) (ht : (match P.underlying t with | some (.slice _) => true | _ => false) = true := by kernel_rfl) : Rp P N F (.call { callee := .builtin .len, args := #[x], argTypes := #[t] }) (.int .i64 n) := ⟨fun o' ho a w HF => run_len ho (HF.eval hx) ht⟩
structure IX (P : Program) (t m : Nat) : Prop where
  run : ∀ (k : IntKind) (ad : Addr) (n c : Nat) (i : Int) (w : World), 0 ≤ i → i < n → (Instr.indexAt t (.slice (some ad) n c) (.int k i)).run P w = .ok (.pointer (some (ad.add (i.toNat * m)))) w
theorem ixR {t m n c : Nat} {ad : Addr} {i : Int} {k : IntKind} {x y : Operand} (hx : ev F x = some (.slice (some ad) n c) := by rfl) (hy : ev F y = some (.int k i) := by rfl) (hs : IX P t m) (h0 : 0 ≤ i := by omega) (h1 : i < n := by omega) : Rp P N F (.indexAddr t x y) (.pointer (some (ad.add (i.toNat * m)))) := ⟨fun o' ho a w HF => by
  have := hs.run k ad n c i w h0 h1; unfold execOp; rw [ho]; simp [HF.eval hx, HF.eval hy, this]⟩
structure FA (P : Program) (t f i : Nat) : Prop where
  run : ∀ (g : Nat) (w : World), (Instr.fieldAt t (.pointer (some ⟨g, 0, none⟩)) f).run P w = .ok (.pointer (some ⟨g, i, none⟩)) w
theorem faR {t f i g : Nat} {x : Operand} (hf : FA P t f i) (hx : ev F x = some (.pointer (some ⟨g, 0, none⟩)) := by rfl) : Rp P N F (.fieldAddr t x f) (.pointer (some ⟨g, i, none⟩)) := ⟨fun o' ho a w HF => by
  have := hf.run g w; unfold execOp; rw [ho]; simp [HF.eval hx, this]⟩
theorem zip_ev (ρ : Operand → Value) : ∀ ps : List (Nat × Operand), (ps.map fun p => (p.1, ρ p.2)) = (ps.map (·.1)).zip ((ps.map (·.2)).map ρ)
  | [] => rfl
  | p :: ps => by simp only [List.map_cons, List.zip_cons_cons, zip_ev ρ ps]
theorem buR {t : Nat} {ps : List (Nat × Operand)} {is : List Nat} {vs r : List Value} (hb : ∀ w, (Instr.build t ((is.zip vs).toArray)).run P w = .ok (.agg r.toArray) w) (he : evs F (ps.map (·.2)) = some vs := by rfl) (hi : ps.map (·.1) = is := by rfl) : Rp P N F (.build t ps.toArray) (.agg r.toArray) := ⟨fun o' ho a w HF => by
  subst hi
  have h1 := HF.evals he
  have h2 : (ps.map fun p => (p.1, a.eval p.2)) = (ps.map (·.1)).zip vs := by rw [zip_ev, h1]
  have := hb w
  unfold execOp
  rw [ho]
  simp only [List.map_toArray, h2]
  simp [this]⟩
/-- Type t: a struct of n cells. -/
structure ST (P : Program) (t n : Nat) : Prop where
  run : ∃ d, P.underlying t = some d ∧ (match d with | .struct _ | .array _ _ => true | _ => false) = true ∧ (P.info? t).map (·.size) = some n
/-- Type t: one cell. -/
structure SC (P : Program) (t : Nat) : Prop where
  run : ∃ d, P.underlying t = some d ∧ (match d with | .struct _ | .array _ _ => true | _ => false) = false ∧ (P.info? t).map (·.size) = some 1
theorem run_load_st {t g n : Nat} {cs : List Value} (hs : ST P t n) (hl : cs.length = n) (hc : w.heap[g]? = some (.cells cs.toArray t (0, 0))) : (Instr.loadAt t (.pointer (some ⟨g, 0, none⟩))).run P w = .ok (.agg cs.toArray) w := by
  obtain ⟨ds, hu, hd, hi⟩ := hs.run
  have := run_loadVar_row (P := P) w g t t cs.toArray (0, 0) ds hc hu (by cases ds <;> first | rfl | exact hd) (by rw [hi, ← hl]; simp)
  simp [Instr.loadAt, Instr.sureAddr, this]
theorem run_load_sc {t : Nat} {ad : Addr} {v : Value} (hs : SC P t) (hc : w.cell? ad = some v) : (Instr.loadAt t (.pointer (some ad))).run P w = .ok v w := by
  obtain ⟨ds, hu, hd, _⟩ := hs.run
  have h1 : (isAgg t).run P w = .ok false w := by
    unfold isAgg
    cases ds <;> first | (cases hd; done) | simp [run_underlying hu]
  simp [Instr.loadAt, Instr.sureAddr, loadVar, h1]
  go_simp
theorem lsR {t g n : Nat} {cs : List Value} {x : Operand} (hs : ST P t n) (hx : ev F x = some (.pointer (some ⟨g, 0, none⟩)) := by rfl) (hm : (⟨g, t, cs⟩ : Bx) ∈ bs := by repeat (first | exact List.mem_cons_self | apply List.mem_cons_of_mem)) (hl : cs.length = n := by rfl) : Rn P N F W0 w0 S bs rs (.load t x) (.agg cs.toArray) := ⟨fun o' ho a w HF HM => by
  unfold execOp; rw [ho]; simp [HF.eval hx, run_load_st hs hl (HM.box _ hm).2]⟩
theorem lfR {t g i T : Nat} {cs : List Value} {v : Value} {x : Operand} (hs : SC P t) (hx : ev F x = some (.pointer (some ⟨g, i, none⟩)) := by rfl) (hm : (⟨g, T, cs⟩ : Bx) ∈ bs := by repeat (first | exact List.mem_cons_self | apply List.mem_cons_of_mem)) (hi : nth cs i = some v := by rfl) : Rn P N F W0 w0 S bs rs (.load t x) v := ⟨fun o' ho a w HF HM => by
  unfold execOp; rw [ho]; simp [HF.eval hx, run_load_sc (P := P) hs ((blk_cell (HM.box _ hm).2 i).trans (by rw [List.getElem?_toArray, nth_eq]; exact hi))]⟩
theorem pv {o : Oper} {v : Value} {w1 : World} (HF : Fr N a F) (hd : o.dst = some d) (hg : o.guard = none) (hN : d < N) (hr : (execOp a.eval o).run P w = .ok (.value v) w1) (h : ∀ a', Fr N a' ((d, v) :: F) → WL P ops Q rest a' w1) : WL P ops Q (o :: rest) a w := by
  refine ⟨Kd.event_run hg hr ?_⟩
  rw [hd]
  exact (h _ (HF.put hN v)).out
theorem sp {o : Op} {v : Value} (HF : Fr N a F) (hr : Rp P N F o v) (h : ∀ a', Fr N a' ((d, v) :: F) → WL P ops Q rest a' w) (hN : d < N := by decide) : WL P ops Q (⟨some d, o, ty, pos, af, none⟩ :: rest) a w := pv HF rfl rfl hN (hr.run _ rfl a w HF) h
theorem sm {o : Op} {v : Value} (HF : Fr N a F) (HM : Me W0 w0 S w bs rs) (hr : Rn P N F W0 w0 S bs rs o v) (h : ∀ a', Fr N a' ((d, v) :: F) → WL P ops Q rest a' w) (hN : d < N := by decide) : WL P ops Q (⟨some d, o, ty, pos, af, none⟩ :: rest) a w := pv HF rfl rfl hN (hr.run _ rfl a w HF HM) h
theorem nl (h : Q .normal a w) : WL P ops Q [] a w := ⟨h⟩
/-- A new variable of type t. -/
structure AZ (P : Program) (t : Nat) (cs : List Value) : Prop where
  run : ∀ (w : World), (Instr.alloc t true (.tuple #[])).run P w = .ok (.pointer (some ⟨w.heap.size, 0, none⟩)) (w.alloc (.cells cs.toArray t (0, 0)))
theorem al {t : Nat} {cs : List Value} (hz : AZ P t cs) (HF : Fr N a F) (HM : Me W0 w0 S w bs rs) (h : ∀ g a' w', Fr N a' ((d, .pointer (some ⟨g, 0, none⟩)) :: F) → Me W0 w0 S w' (⟨g, t, cs⟩ :: bs) rs → WL P ops Q rest a' w') (hN : d < N := by decide) : WL P ops Q (⟨some d, .alloc t, ty, pos, af, none⟩ :: rest) a w :=
  pv HF rfl rfl hN (by have := hz.run w; unfold execOp; simp [this]) fun a' HF' => h _ a' _ HF' (HM.new rfl (blk_new w _) (below_alloc (Below.refl _ _) _))
/-- Cells from place o on, put in. -/
def pt : List Value → Nat → List Value → Option (List Value)
  | cs, _, [] => some cs
  | [], _, _ :: _ => none
  | _ :: cs, 0, v :: vs => match pt cs 0 vs with | some l => some (v :: l) | none => none
  | c :: cs, o + 1, v :: vs => match pt cs o (v :: vs) with | some l => some (c :: l) | none => none
theorem pt_of : ∀ (cs : List Value) (o : Nat) (vs l : List Value), pt cs o vs = some l → o + vs.length ≤ cs.length ∨ vs = [] := by
  intro cs
  induction cs with
  | nil => intro o vs l h; cases vs with | nil => exact Or.inr rfl | cons v vs => simp [pt] at h
  | cons c cs ih =>
    intro o vs l h
    cases vs with
    | nil => exact Or.inr rfl
    | cons v vs =>
      cases o with
      | zero =>
        simp only [pt] at h
        split at h
        · rename_i l' hl'
          rcases ih 0 vs l' hl' with h1 | h1
          · left; simp only [List.length_cons]; omega
          · left; subst h1; simp
        · cases h
      | succ o =>
        simp only [pt] at h
        split at h
        · rename_i l' hl'
          rcases ih o (v :: vs) l' hl' with h1 | h1
          · left; simp only [List.length_cons] at h1 ⊢; omega
          · cases h1
        · cases h
theorem pt_get : ∀ (cs : List Value) (o : Nat) (vs l : List Value), pt cs o vs = some l → l = (cs.take o ++ vs ++ cs.drop (o + vs.length)) := by
  intro cs
  induction cs with
  | nil => intro o vs l h; cases vs with | nil => simp [pt] at h; simp [h] | cons v vs => simp [pt] at h
  | cons c cs ih =>
    intro o vs l h
    cases vs with
    | nil => simp [pt] at h; simp [← h]
    | cons v vs =>
      cases o with
      | zero =>
        simp only [pt] at h
        split at h
        · rename_i l' hl'
          have := ih 0 vs l' hl'
          simp only [Option.some.injEq] at h
          subst h
          rw [this]
          simp
        · cases h
      | succ o =>
        simp only [pt] at h
        split at h
        · rename_i l' hl'
          have := ih o (v :: vs) l' hl'
          simp only [Option.some.injEq] at h
          subst h
          rw [this]
          simp [Nat.add_right_comm o 1]
        · cases h
def cel : Value → Option (List Value)
  | .agg ⟨l⟩ => some l
  | v => some [v]
theorem cel_eq {u : Value} {l : List Value} (h : cel u = some l) : u.cells.toList = l := by
  cases u <;> first | (exact Option.some.inj h) | skip
/-- One box of a list is another. -/
inductive Pt (x y : Bx) : List Bx → List Bx → Prop
  | hd {l : List Bx} : Pt x y (x :: l) (y :: l)
  | tl {z : Bx} {l l' : List Bx} (h : Pt x y l l') : Pt x y (z :: l) (z :: l')
theorem Pt.set {x y : Bx} {l l' : List Bx} (h : Pt x y l l') : ∃ k, l[k]? = some x ∧ l' = l.set k y := by
  induction h with
  | hd => exact ⟨0, rfl, rfl⟩
  | tl _ ih => obtain ⟨k, h1, h2⟩ := ih; exact ⟨k + 1, h1, by rw [h2]; rfl⟩
theorem stR {t g i T : Nat} {cs cs' seg : List Value} {u : Value} {x y : Operand} {bs' : List Bx} (HF : Fr N a F) (HM : Me W0 w0 S w bs rs) (hx : ev F x = some (.pointer (some ⟨g, i, none⟩))) (hy : ev F y = some u) (hu : cel u = some seg) (ht : (P.info? t).map (·.size) = some seg.length) (h1 : ∀ q ∈ seg, q.oneCell' = true)
    (hm : Pt ⟨g, T, cs⟩ ⟨g, T, cs'⟩ bs bs') (hp : pt cs i seg = some cs') (hfit : i + seg.length ≤ cs.length) {o : Oper} (ho : o.op = .store t x y) : ∃ w1, (execOp a.eval o).run P w = .ok .skip w1 ∧ Me W0 w0 S w1 bs' rs := by
  obtain ⟨k, hk, hb⟩ := hm.set
  have hc := HM.at_ hk
  have hg := pt_get _ _ _ _ hp
  have hrun : (execOp a.eval o).run P w = .ok .skip (w.setCells g i seg) := by
    have := run_store_run (P := P) (w := w) (o := i) t u seg hc (cel_eq hu) ht (by simpa using hfit) h1
    unfold execOp
    rw [ho]
    simp [HF.eval hx, HF.eval hy, this]
  refine ⟨_, hrun, ?_⟩
  subst hb
  obtain ⟨s1, s2, s3, s4⟩ := setCells_same g seg i w
  refine HM.upd hk (by rw [s4]; exact Nat.le_refl _) (fun j hj hne => setCells_far seg i j hne) ?_ ⟨s1.trans HM.bel.os, s2.trans HM.bel.tape, s3.trans HM.bel.output, by rw [s4]; exact HM.bel.size, fun j hj => ?_⟩
  · obtain ⟨cur', h3, _, h5⟩ := setCells_row seg i w cs.toArray hc (by simpa using hfit)
    have h6 : cur'.toList = cs' := by rw [h5, hg]
    rw [h3, ← h6, Array.toArray_toList]
  · rw [setCells_far seg i j (fun e => ?_)]
    · exact HM.bel.block j hj
    · have := HM.ge hk
      omega
theorem so {t g i T : Nat} {cs cs' seg : List Value} {u : Value} {x y : Operand} {bs' : List Bx} (HF : Fr N a F) (HM : Me W0 w0 S w bs rs) (h : ∀ w', Me W0 w0 S w' bs' rs → WL P ops Q rest a w')
    (hx : ev F x = some (.pointer (some ⟨g, i, none⟩)) := by rfl) (hy : ev F y = some u := by rfl) (hu : cel u = some seg := by rfl) (ht : (P.info? t).map (·.size) = some seg.length := by kernel_rfl) (h1 : ∀ q ∈ seg, q.oneCell' = true := by intro q hq; simp only [List.mem_cons, List.not_mem_nil, or_false] at hq; (first | (rcases hq with rfl | rfl | rfl | rfl | rfl <;> rfl) | (rcases hq with rfl | rfl | rfl | rfl <;> rfl) | (rcases hq with rfl | rfl | rfl <;> rfl) | (rcases hq with rfl | rfl <;> rfl) | (rcases hq with rfl <;> rfl)))
    (hm : Pt ⟨g, T, cs⟩ ⟨g, T, cs'⟩ bs bs' := by repeat (first | exact Pt.hd | apply Pt.tl)) (hp : pt cs i seg = some cs' := by rfl) (hfit : i + seg.length ≤ cs.length := by simp) : WL P ops Q (⟨none, .store t x y, ty, pos, af, none⟩ :: rest) a w := by
  obtain ⟨w1, hr, hM⟩ := stR (P := P) HF HM hx hy hu ht h1 hm hp hfit (o := ⟨none, .store t x y, ty, pos, af, none⟩) rfl
  refine ⟨wpList_plain rfl fun K hK => ?_⟩
  unfold Oper.wp
  rw [hr]
  exact hK _ _ (h _ hM).out
theorem cl {f : Nat} {fn : Func} {as : List Operand} {vs : List Value} {ts : Array TypeId} (HF : Fr N a F) (hf : P.funcs[f]? = some fn) (hn : (fn.name == "runtime.NumGoroutine") = false) (h : Calls P f vs.toArray w fun e w' => ∃ v, e = .returned v ∧ ∀ a', Fr N a' ((d, v) :: F) → WL P ops Q rest a' w') (he : evs F as = some vs := by rfl) (hb : fn.body.isSome = true := by rfl) (hN : d < N := by decide) : WL P ops Q (⟨some d, .call { callee := .value (.func f), args := as.toArray, argTypes := ts }, ty, pos, af, none⟩ :: rest) a w :=
  ⟨goesL_ (some d) rfl rfl hf hn hb vs.toArray rfl (by simp [HF.evals he]) (h.mono fun e w' hh => by
    obtain ⟨v, he', hk⟩ := hh
    exact ⟨v, he', (hk _ (HF.put hN v)).out⟩)⟩
/-- A variable of type t that holds u. -/
structure BZ (P : Program) (t : Nat) (u : Value) (cs : List Value) : Prop where
  run : ∀ w, (Instr.box t u).run P w = .ok (.pointer (some ⟨w.heap.size, 0, none⟩)) (w.alloc (.cells cs.toArray t (0, 0)))
theorem bx {t : Nat} {u : Value} {cs : List Value} {x : Operand} (hz : BZ P t u cs) (HF : Fr N a F) (HM : Me W0 w0 S w bs rs) (h : ∀ g a' w', Fr N a' ((d, .pointer (some ⟨g, 0, none⟩)) :: F) → Me W0 w0 S w' (⟨g, t, cs⟩ :: bs) rs → WL P ops Q rest a' w') (hx : ev F x = some u := by rfl) (hN : d < N := by decide) : WL P ops Q (⟨some d, .box t x, ty, pos, af, none⟩ :: rest) a w :=
  pv HF rfl rfl hN (by have := hz.run w; unfold execOp; simp [HF.eval hx, this]) fun a' HF' => h _ a' _ HF' (HM.new rfl (blk_new w _) (below_alloc (Below.refl _ _) _))
theorem lc {t : Nat} {ad : Addr} {v : Value} {x : Operand} (hs : SC P t) (hc : w.cell? ad = some v) (HF : Fr N a F) (h : ∀ a', Fr N a' ((d, v) :: F) → WL P ops Q rest a' w) (hx : ev F x = some (.pointer (some ad)) := by rfl) (hN : d < N := by decide) : WL P ops Q (⟨some d, .load t x, ty, pos, af, none⟩ :: rest) a w :=
  pv HF rfl rfl hN (by unfold execOp; simp [HF.eval hx, run_load_sc (P := P) hs hc]) h
/-- A test of numbers whose answer doesn't matter. -/
theorem cmpX {op : BinOp} {t t' : Nat} {x y : Operand} {k : IntKind} {p q : Int} (HF : Fr N a F) (h : ∀ b a', Fr N a' ((d, .bool b) :: F) → WL P ops Q rest a' w) (hx : ev F x = some (.int k p) := by rfl) (hy : ev F y = some (.int k q) := by rfl) (ho : op = .eql ∨ op = .neq ∨ op = .lss ∨ op = .leq ∨ op = .gtr ∨ op = .geq := by simp) (hN : d < N := by decide) : WL P ops Q (⟨some d, .binOp op t x y t', ty, pos, af, none⟩ :: rest) a w := by
  have hb : ∃ b, Rp P N F (.binOp op t x y t') (.bool b) := by
    rcases ho with rfl | rfl | rfl | rfl | rfl | rfl
    · exact ⟨_, ieqR hx hy⟩
    · exact ⟨_, ineR hx hy⟩
    · exact ⟨_, iltR hx hy⟩
    · exact ⟨_, ileR hx hy⟩
    · exact ⟨_, igtR hx hy⟩
    · exact ⟨_, igeR hx hy⟩
  obtain ⟨b, hb⟩ := hb
  exact sp HF hb (h b) hN
/-- A literal of elements: a row. -/
structure LZ {α : Type} (P : Program) (d : Kd α) (e t n : Nat) (ps : List (Nat × Value)) (xs : List α) : Prop where
  run : ∀ w, ∃ inner : List Value, (Instr.buildSlice t n ps.toArray).run P w = .ok (.slice (some ⟨w.heap.size, 0, none⟩) xs.length xs.length) (w.alloc (.cells inner.toArray e)) ∧ (∀ (W : World) (b : Nat), Reps (d.M W b (fun _ => False)) d.sz xs inner) ∧ xs.length ≤ 9223372036854775807
theorem liR {α : Type} {dk : Kd α} {e t n : Nat} {ps : List (Nat × Operand)} {is : List Nat} {vs : List Value} {xs : List α} {o : Oper} (hz : LZ P dk e t n (is.zip vs) xs) (hE : dk.E = []) (HF : Fr N a F) (HM : Me W0 w0 S w bs rs) (ho : o.op = .buildSlice t n ps.toArray) (he : evs F (ps.map (·.2)) = some vs) (hi : ps.map (·.1) = is) :
    ∃ c w1, (execOp a.eval o).run P w = .ok (.value (.slice (some ⟨w.heap.size, 0, none⟩) xs.length c)) w1 ∧ Me W0 w0 S w1 bs (⟨dk, e, .slice (some ⟨w.heap.size, 0, none⟩) xs.length c, xs⟩ :: rs) := by
  subst hi
  obtain ⟨inner, hr, hrep, hmx⟩ := hz.run w
  have h1 := HF.evals he
  have h2 : (ps.map fun p => (p.1, a.eval p.2)) = (ps.map (·.1)).zip vs := by rw [zip_ev, h1]
  have hrun : (execOp a.eval o).run P w = .ok (.value (.slice (some ⟨w.heap.size, 0, none⟩) xs.length xs.length)) (w.alloc (.cells inner.toArray e)) := by
    unfold execOp
    rw [ho]
    simp only [List.map_toArray, h2]
    simp [hr]
  refine ⟨xs.length, _, hrun, ?_⟩
  have hB : Below w.heap.size w (w.alloc (.cells inner.toArray e)) := below_alloc (Below.refl _ _) _
  refine HM.row (d := dk) (e := e) ?_ hB hE
  refine ⟨fun _ _ => trivial, inner, ?_, (hrep _ _).imp_ (fun _ _ hp => dk.M_mono (fun _ hk => hk.elim) hp)⟩
  have h3 := World.ownsRow_lit (base := w.heap.size) (e := e) (size := dk.sz) w inner.toArray xs.length (Nat.le_refl _) (by simpa [maxLen] using hmx) (by simpa using (hrep w 0).1)
  simpa using h3
theorem li {α : Type} {dk : Kd α} {e t n : Nat} {ps : List (Nat × Operand)} {is : List Nat} {vs : List Value} {xs : List α} (hz : LZ P dk e t n (is.zip vs) xs) (HF : Fr N a F) (HM : Me W0 w0 S w bs rs) (h : ∀ A c a' w', Fr N a' ((d, .slice (some A) xs.length c) :: F) → Me W0 w0 S w' bs (⟨dk, e, .slice (some A) xs.length c, xs⟩ :: rs) → WL P ops Q rest a' w') (he : evs F (ps.map (·.2)) = some vs := by rfl) (hi : ps.map (·.1) = is := by rfl) (hE : dk.E = [] := by rfl) (hN : d < N := by decide) : WL P ops Q (⟨some d, .buildSlice t n ps.toArray, ty, pos, af, none⟩ :: rest) a w := by
  obtain ⟨c, w1, hr, hM⟩ := liR (o := ⟨some d, .buildSlice t n ps.toArray, ty, pos, af, none⟩) hz hE HF HM rfl he hi
  exact pv HF rfl rfl hN hr fun a' HF' => h _ c a' w1 HF' hM
/-- A type of rows that append knows. -/
structure AP {α : Type} (P : Program) (d : Kd α) (t e bytes : Nat) : Prop where
  run : ∃ z : Value, P.underlying t = some (.slice e) ∧ (P.info? e).map (fun i => (i.zero, i.size, i.bytes)) = some (some z, d.sz, bytes) ∧ z.cells.size = d.sz ∧ 0 < d.sz ∧ 0 < bytes ∧ d.E = [] ∧ ∀ W b ok x cs, d.K W x cs → d.M W b ok x cs
theorem ar {α : Type} {dk : Kd α} {e t bytes m n : Nat} {A B : Option Addr} {c c' : Nat} {xs ys : List α} {s x : Operand} (hp : AP P dk t e bytes) (HF : Fr N a F) (HM : Me W0 w0 S w bs [⟨dk, e, .slice B m c', ys⟩, ⟨dk, e, .slice A n c, xs⟩]) (h : ∀ A c a' w', Fr N a' ((d, .slice A (xs ++ ys).length c) :: F) → Me W0 w0 S w' bs [⟨dk, e, .slice A (xs ++ ys).length c, xs ++ ys⟩] → WL P ops Q rest a' w') (hs : ev F s = some (.slice A n c) := by rfl) (hx : ev F x = some (.slice B m c') := by rfl) (hl : (xs.length + ys.length) * bytes ≤ 140737488355328 := by omega) (hN : d < N := by decide) : WL P ops Q (⟨some d, .call { callee := .builtin .append, args := #[s, x], argTypes := #[t, t] }, ty, pos, af, none⟩ :: rest) a w := by
  obtain ⟨z, ht, hi, hz, hs0, hb0, hE, hKM⟩ := hp.run
  obtain ⟨hm, _, hC⟩ := HM.C_ 0
  refine ⟨Kd.R_append_rows (w0 := w) dk w0.heap.size rfl s x t e z bytes rfl ht hi hz hs0 hb0 (.slice A n c) xs ys B m c' (fun _ => True) (fun _ => False) (HF.eval hs) (HF.eval hx) (HM.R_ 1) (by rw [hm]; exact hC) (fun x cs hk => hKM _ _ _ x cs hk) (fun _ hk => hk.elim) (fun _ _ => trivial) ((Below.refl _ _).mono HM.sz) HM.sz (by rw [hm]; exact hl) fun v1 w1 h1 _ h3 h4 => ?_⟩
  obtain ⟨A', c1, rfl⟩ := Kd.R_slice h1
  exact (h A' c1 _ w1 (HF.put hN _) (Me.app (rs' := [_]) HM h1 h3 h4)).out
/-- A call through a slot that holds a function with captured variables. -/
theorem clC {f tm : Nat} {fn : Func} {as : List Operand} {vs cap : List Value} {ts : Array TypeId} (HF : Fr N a F) (hf : P.funcs[f]? = some fn) (hn : (fn.name == "runtime.NumGoroutine") = false) (h : Calls P f (vs ++ cap).toArray w fun e w' => ∃ v, e = .returned v ∧ ∀ a', Fr N a' ((d, v) :: F) → WL P ops Q rest a' w') (ht : gt F tm = some (.func (.func f) #[] cap.toArray) := by rfl) (he : evs F as = some vs := by rfl) (hb : fn.body.isSome = true := by rfl) (hN : d < N := by decide) : WL P ops Q (⟨some d, .call { callee := .value (.tmp tm), args := as.toArray, argTypes := ts }, ty, pos, af, none⟩ :: rest) a w :=
  ⟨goesLTC_ (some d) rfl rfl hf hn hb (vs ++ cap).toArray #[] cap.toArray rfl (HF.has tm _ ht) (by simp [HF.evals he]) (h.mono fun e w' hh => by
    obtain ⟨v, he', hk⟩ := hh
    exact ⟨v, he', (hk _ (HF.put hN v)).out⟩)⟩
theorem yl {j dj : Nat} (HF : Fr N a F) {b : Bool} (hj : (ops[j]?).bind (·.dst) = some dj) (hb : gt F dj = some (.bool b)) (hN : dj < N) : yielded ops a.tmps j = some b := by
  have h1 := HF.has _ _ hb
  have h2 : a.tmps[dj]? = some (.bool b) := by
    rw [Array.getD_eq_getD_getElem?, Array.getElem?_eq_getElem (by rw [HF.sz]; exact hN)] at h1
    rw [Array.getElem?_eq_getElem (by rw [HF.sz]; exact hN)]
    exact congrArg some h1
  unfold yielded
  rw [hj]
  show (match a.tmps[dj]? with | some (.bool b) => some b | _ => none) = _
  rw [h2]
theorem ylu {j dj : Nat} (HF : Fr N a F) (hj : (ops[j]?).bind (·.dst) = some dj) (hb : gt F dj = some undef) (hN : dj < N) : yielded ops a.tmps j = none := by
  have h1 := HF.has _ _ hb
  have h2 : a.tmps[dj]? = some undef := by
    rw [Array.getD_eq_getD_getElem?, Array.getElem?_eq_getElem (by rw [HF.sz]; exact hN)] at h1
    rw [Array.getElem?_eq_getElem (by rw [HF.sz]; exact hN)]
    exact congrArg some h1
  unfold yielded
  rw [hj]
  show (match a.tmps[dj]? with | some (.bool b) => some b | _ => none) = _
  rw [h2]
  rfl
theorem gy {D : Option Tmp} {o : Op} {j dj : Nat} {want b : Bool} (HF : Fr N a F) (h : WL P ops Q (⟨D, o, ty, pos, af, none⟩ :: rest) a w) (hj : (ops[j]?).bind (·.dst) = some dj := by rfl) (hb : gt F dj = some (.bool b) := by rfl) (hw : b = want := by rfl) (hN : dj < N := by decide) : WL P ops Q (⟨D, o, ty, pos, af, some (j, want)⟩ :: rest) a w :=
  ⟨gate_guard (by unfold Region.wanted; show (yielded ops a.tmps j == some want) = true; rw [yl HF hj hb hN, hw]; cases want <;> rfl) h.out⟩
theorem gn {o : Op} {j dj : Nat} {want b : Bool} (HF : Fr N a F) (h : ∀ a', Fr N a' ((d, undef) :: F) → WL P ops Q rest a' w) (hj : (ops[j]?).bind (·.dst) = some dj := by rfl) (hb : gt F dj = some (.bool b) := by rfl) (hw : b = !want := by rfl) (hN : dj < N := by decide) (hd : d < N := by decide) : WL P ops Q (⟨some d, o, ty, pos, af, some (j, want)⟩ :: rest) a w :=
  ⟨skip_guard (by unfold Region.wanted; show (yielded ops a.tmps j == some want) = false; rw [yl HF hj hb hN, hw]; cases want <;> rfl) (h _ (HF.put hd undef)).out⟩
theorem gu {o : Op} {j dj : Nat} {want : Bool} (HF : Fr N a F) (h : ∀ a', Fr N a' ((d, undef) :: F) → WL P ops Q rest a' w) (hj : (ops[j]?).bind (·.dst) = some dj := by rfl) (hb : gt F dj = some undef := by rfl) (hN : dj < N := by decide) (hd : d < N := by decide) : WL P ops Q (⟨some d, o, ty, pos, af, some (j, want)⟩ :: rest) a w :=
  ⟨skip_guard (by unfold Region.wanted; show (yielded ops a.tmps j == some want) = false; rw [ylu HF hj hb hN]; rfl) (h _ (HF.put hd undef)).out⟩
end
/-! ### Regions that draw their order: k is the mask of what has been carried out -/
structure WA (P : Program) (ops : Array Oper) (Q : Exit → Act → World → Prop) (S : World → Prop) (ds : List Nat) (n fuel k : Nat) (a : Act) (w : World) : Prop where
  out : wpAnyLast P .any ops Q S ds fuel (bA n k) a w
/-- One operation as a step: K is what follows. -/
structure SK (P : Program) (ops : Array Oper) (Q : Exit → Act → World → Prop) (o : Oper) (a : Act) (w : World) (K : Act → World → Prop) : Prop where
  out : if Region.wanted o (yielded ops a.tmps) = true then Oper.wp P o a w K Q else K (a.put o.dst undef) w
/-- Whether an operation with this guard is carried out. -/
structure Gd (ops : Array Oper) (N : Nat) (F : List (Nat × Value)) (gd : Option (Nat × Bool)) (b : Bool) : Prop where
  run : ∀ (a : Act) (o : Oper), o.guard = gd → Fr N a F → Region.wanted o (yielded ops a.tmps) = b
section
variable {P : Program} {ops : Array Oper} {Q : Exit → Act → World → Prop} {N : Nat} {a : Act} {w W0 w0 : World} {S : Option Nat} {SS : World → Prop} {F : List (Nat × Value)} {bs : List Bx} {rs : List Rw} {d ty i k k' n fuel : Nat} {pos : String} {af : Array Edge} {gd : Option (Nat × Bool)} {ds : List Nat} {TT : Bool × List (List Nat × List Nat)} {BB : List Nat}
theorem g0 : Gd ops N F none true := ⟨fun a o hg _ => by unfold Region.wanted; rw [hg]⟩
theorem gY {j dj : Nat} {want b : Bool} (hj : (ops[j]?).bind (·.dst) = some dj := by rfl) (hb : gt F dj = some (.bool b) := by rfl) (hw : b = want := by rfl) (hN : dj < N := by decide) : Gd ops N F (some (j, want)) true := ⟨fun a o hg HF => by
  unfold Region.wanted; rw [hg]; show (yielded ops a.tmps j == some want) = true; rw [yl HF hj hb hN, hw]; cases want <;> rfl⟩
theorem gN {j dj : Nat} {want b : Bool} (hj : (ops[j]?).bind (·.dst) = some dj := by rfl) (hb : gt F dj = some (.bool b) := by rfl) (hw : b = !want := by rfl) (hN : dj < N := by decide) : Gd ops N F (some (j, want)) false := ⟨fun a o hg HF => by
  unfold Region.wanted; rw [hg]; show (yielded ops a.tmps j == some want) = false; rw [yl HF hj hb hN, hw]; cases want <;> rfl⟩
theorem gU {j dj : Nat} {want : Bool} (hj : (ops[j]?).bind (·.dst) = some dj := by rfl) (hb : gt F dj = some undef := by rfl) (hN : dj < N := by decide) : Gd ops N F (some (j, want)) false := ⟨fun a o hg HF => by
  unfold Region.wanted; rw [hg]; show (yielded ops a.tmps j == some want) = false; rw [ylu HF hj hb hN]; rfl⟩
/-- A step that touches no memory. -/
theorem ap (i k' : Nat) {o : Op} {v : Value} (HT : Aside0 (rtab .any ops = TT)) (hi : ops[i]? = some ⟨some d, o, ty, pos, af, gd⟩) (HF : Fr N a F) (hg : Gd ops N F gd true) (hr : Rp P N F o v) (h : ∀ a', Fr N a' ((d, v) :: F) → WA P ops Q SS ds n fuel k' a' w) (hc : anyT TT (bA n k).toList (bA n k').toList i = true := by kernel_rfl) (hN : d < N := by decide) (hQ : ∀ c a w, Q (.panic c) (a.put (some d) v) w → Q (.panic c) a w := by exact fun _ _ _ h => h) : WA P ops Q SS ds n (fuel + 1) k a w :=
  ⟨pure_ (bA n k') hi rfl (any_of HT.out hc) hQ (Or.inl ⟨hg.run a _ rfl HF, fun w => hr.run _ rfl a w HF⟩) rfl (h _ (HF.put hN v)).out⟩
/-- An operation that isn't carried out. -/
theorem an (i k' : Nat) {o : Op} (HT : Aside0 (rtab .any ops = TT)) (hi : ops[i]? = some ⟨some d, o, ty, pos, af, gd⟩) (HF : Fr N a F) (hg : Gd ops N F gd false) (h : ∀ a', Fr N a' ((d, undef) :: F) → WA P ops Q SS ds n fuel k' a' w) (hc : anyT TT (bA n k).toList (bA n k').toList i = true := by kernel_rfl) (hN : d < N := by decide) (hQ : ∀ c a w, Q (.panic c) (a.put (some d) undef) w → Q (.panic c) a w := by exact fun _ _ _ h => h) : WA P ops Q SS ds n (fuel + 1) k a w :=
  ⟨pure_ (bA n k') hi rfl (any_of HT.out hc) hQ (Or.inr ⟨hg.run a _ rfl HF, rfl⟩) rfl (h _ (HF.put hN undef)).out⟩
/-- A read of what S tells. -/
theorem am (i k' : Nat) {o : Op} {v : Value} (HT : Aside0 (rtab .any ops = TT)) (hi : ops[i]? = some ⟨some d, o, ty, pos, af, gd⟩) (HW : Aside0 (waitsOk TT.2 BB = true)) (HF : Fr N a F) (HM : Me W0 w0 S w bs rs) (hg : Gd ops N F gd true) (hr : Rn P N F W0 w0 S bs rs o v) (h : ∀ a', Fr N a' ((d, v) :: F) → WA P ops Q (fun w => Me W0 w0 S w bs rs) ds n fuel k' a' w) (hc : takeW TT BB ds (bA n k).toList (bA n k').toList i = true := by kernel_rfl) (hN : d < N := by decide) (hQ : ∀ c a w, Q (.panic c) (a.put (some d) v) w → Q (.panic c) a w := by exact fun _ _ _ h => h) : WA P ops Q (fun w => Me W0 w0 S w bs rs) ds n (fuel + 1) k a w :=
  ⟨take_ (bA n k') hi rfl (take_ofW HT.out HW.out hc) hQ (Or.inl ⟨hg.run a _ rfl HF, fun w hS => hr.run _ rfl a w HF hS⟩) HM rfl (h _ (HF.put hN v)).out⟩
/-- The one operation that is ready. -/
theorem r1_ (i k' : Nat) {o : Oper} (HT : Aside0 (rtab .any ops = TT)) (h : ∀ K : Act → World → Prop, (∀ a' w', SS w' → (SS w' → WA P ops Q SS ds n fuel k' a' w') → K a' w') → SK P ops Q o a w K) (hi : ops[i]? = some o := by rfl) (hc : (readyT TT.2 (bA n k).toList == [i] && (bA n k).toList.set i true == (bA n k').toList) = true := by kernel_rfl) (hd : i ∉ ds := by decide) : WA P ops Q SS ds n (fuel + 1) k a w :=
  ⟨one_ (bA n k') hi rfl (one_of HT.out hc) hd (fun K hK => (h K (fun a' w' h1 h2 => hK.out a' w' h1 (fun h3 => (h2 h3).out))).out)⟩
/-- The same, behind which S need not hold. -/
theorem r1l_ (i k' : Nat) {o : Oper} (HT : Aside0 (rtab .any ops = TT)) (h : ∀ K : Act → World → Prop, (∀ a' w', WA P ops Q SS ds n fuel k' a' w' → K a' w') → SK P ops Q o a w K) (hi : ops[i]? = some o := by rfl) (hc : (readyT TT.2 (bA n k).toList == [i] && (bA n k).toList.set i true == (bA n k').toList) = true := by kernel_rfl) (hd : i ∈ ds := by decide) : WA P ops Q SS ds n (fuel + 1) k a w :=
  ⟨last_ (bA n k') hi rfl (one_of HT.out hc) hd (fun K hK => (h K (fun a' w' h1 => hK.out a' w' h1.out)).out)⟩
/-- Two that are ready: each order. -/
theorem r2_ (i j ki kj : Nat) {o o' : Oper} (HT : Aside0 (rtab .any ops = TT)) (h1 : ∀ K : Act → World → Prop, (∀ a' w', SS w' → (SS w' → WA P ops Q SS ds n fuel ki a' w') → K a' w') → SK P ops Q o a w K) (h2 : ∀ K : Act → World → Prop, (∀ a' w', SS w' → (SS w' → WA P ops Q SS ds n fuel kj a' w') → K a' w') → SK P ops Q o' a w K) (hi : ops[i]? = some o := by rfl) (hj : ops[j]? = some o' := by rfl) (hc : (readyT TT.2 (bA n k).toList == [i, j] && (bA n k).toList.set i true == (bA n ki).toList && (bA n k).toList.set j true == (bA n kj).toList) = true := by kernel_rfl) (hdi : i ∉ ds := by decide) (hdj : j ∉ ds := by decide) : WA P ops Q SS ds n (fuel + 1) k a w :=
  ⟨two_ (bA n ki) (bA n kj) hi hj rfl rfl (two_of HT.out hc) hdi hdj (fun K hK => (h1 K (fun a' w' h1 h2 => hK.out a' w' h1 (fun h3 => (h2 h3).out))).out) (fun K hK => (h2 K (fun a' w' h1 h2 => hK.out a' w' h1 (fun h3 => (h2 h3).out))).out)⟩
theorem dn (HT : Aside0 (rtab .any ops = TT)) (h : Q .normal a w) (hc : (readyT TT.2 (bA n k).toList == []) = true := by kernel_rfl) : WA P ops Q SS ds n fuel k a w := ⟨done_ (done_of HT.out hc) h⟩
theorem kv {o : Oper} {v : Value} {w1 : World} {K : Act → World → Prop} (HF : Fr N a F) (hd : o.dst = some d) (hg : Gd ops N F o.guard true) (hN : d < N) (hr : (execOp a.eval o).run P w = .ok (.value v) w1) (h : ∀ a', Fr N a' ((d, v) :: F) → K a' w1) : SK P ops Q o a w K :=
  ⟨by rw [hd]; exact value_ (N := some d) (hg.run a o rfl HF) hd hr (h _ (HF.put hN v))⟩
theorem kc {f : Nat} {fn : Func} {as : List Operand} {vs : List Value} {ts : Array TypeId} {K : Act → World → Prop} (HF : Fr N a F) (hg : Gd ops N F gd true) (hf : P.funcs[f]? = some fn) (hn : (fn.name == "runtime.NumGoroutine") = false) (h : Calls P f vs.toArray w fun e w' => ∃ v, e = .returned v ∧ ∀ a', Fr N a' ((d, v) :: F) → K a' w') (he : evs F as = some vs := by rfl) (hb : fn.body.isSome = true := by rfl) (hN : d < N := by decide) : SK P ops Q ⟨some d, .call { callee := .value (.func f), args := as.toArray, argTypes := ts }, ty, pos, af, gd⟩ a w K :=
  ⟨goes_ hf hn hb vs.toArray (hg.run a _ rfl HF) rfl rfl (by simp [HF.evals he]) (h.mono fun e w' hh => by
    obtain ⟨v, he', hk⟩ := hh
    exact ⟨v, he', hk _ (HF.put hN v)⟩)⟩
theorem ka {t : Nat} {cs : List Value} {K : Act → World → Prop} (hz : AZ P t cs) (HF : Fr N a F) (HM : Me W0 w0 S w bs rs) (h : ∀ g a' w', Fr N a' ((d, .pointer (some ⟨g, 0, none⟩)) :: F) → Me W0 w0 S w' (⟨g, t, cs⟩ :: bs) rs → K a' w') (hN : d < N := by decide) : SK P ops Q ⟨some d, .alloc t, ty, pos, af, none⟩ a w K :=
  kv HF rfl g0 hN (by have := hz.run w; unfold execOp; simp [this]) fun a' HF' => h _ a' _ HF' (HM.new rfl (blk_new w _) (below_alloc (Below.refl _ _) _))
theorem ks {t g i T : Nat} {cs cs' seg : List Value} {u : Value} {x y : Operand} {bs' : List Bx} {K : Act → World → Prop} (HF : Fr N a F) (HM : Me W0 w0 S w bs rs) (h : ∀ w', Me W0 w0 S w' bs' rs → K a w')
    (hx : ev F x = some (.pointer (some ⟨g, i, none⟩)) := by rfl) (hy : ev F y = some u := by rfl) (hu : cel u = some seg := by rfl) (ht : (P.info? t).map (·.size) = some seg.length := by kernel_rfl) (h1 : ∀ q ∈ seg, q.oneCell' = true := by intro q hq; simp only [List.mem_cons, List.not_mem_nil, or_false] at hq; (first | (rcases hq with rfl | rfl | rfl | rfl | rfl <;> rfl) | (rcases hq with rfl | rfl | rfl | rfl <;> rfl) | (rcases hq with rfl | rfl | rfl <;> rfl) | (rcases hq with rfl | rfl <;> rfl) | (rcases hq with rfl <;> rfl)))
    (hm : Pt ⟨g, T, cs⟩ ⟨g, T, cs'⟩ bs bs' := by repeat (first | exact Pt.hd | apply Pt.tl)) (hp : pt cs i seg = some cs' := by rfl) (hfit : i + seg.length ≤ cs.length := by simp) : SK P ops Q ⟨none, .store t x y, ty, pos, af, none⟩ a w K := by
  obtain ⟨w1, hr, hM⟩ := stR (P := P) HF HM hx hy hu ht h1 hm hp hfit (o := ⟨none, .store t x y, ty, pos, af, none⟩) rfl
  exact ⟨skip_ rfl rfl hr (h _ hM)⟩
theorem kl {α : Type} {dk : Kd α} {e t n : Nat} {ps : List (Nat × Operand)} {is : List Nat} {vs : List Value} {xs : List α} {K : Act → World → Prop} (hz : LZ P dk e t n (is.zip vs) xs) (HF : Fr N a F) (HM : Me W0 w0 S w bs rs) (h : ∀ A c a' w', Fr N a' ((d, .slice (some A) xs.length c) :: F) → Me W0 w0 S w' bs (⟨dk, e, .slice (some A) xs.length c, xs⟩ :: rs) → K a' w') (he : evs F (ps.map (·.2)) = some vs := by rfl) (hi : ps.map (·.1) = is := by rfl) (hE : dk.E = [] := by rfl) (hN : d < N := by decide) : SK P ops Q ⟨some d, .buildSlice t n ps.toArray, ty, pos, af, none⟩ a w K := by
  obtain ⟨c, w1, hr, hM⟩ := liR (o := ⟨some d, .buildSlice t n ps.toArray, ty, pos, af, none⟩) hz hE HF HM rfl he hi
  exact kv HF rfl g0 hN hr fun a' HF' => h _ c a' w1 HF' hM
theorem kar {α : Type} {dk : Kd α} {e t bytes m n : Nat} {A B : Option Addr} {c c' : Nat} {xs ys : List α} {s x : Operand} {K : Act → World → Prop} (hp : AP P dk t e bytes) (HF : Fr N a F) (HM : Me W0 w0 S w bs [⟨dk, e, .slice B m c', ys⟩, ⟨dk, e, .slice A n c, xs⟩]) (h : ∀ A c a' w', Fr N a' ((d, .slice A (xs ++ ys).length c) :: F) → Me W0 w0 S w' bs [⟨dk, e, .slice A (xs ++ ys).length c, xs ++ ys⟩] → K a' w') (hs : ev F s = some (.slice A n c) := by rfl) (hx : ev F x = some (.slice B m c') := by rfl) (hl : (xs.length + ys.length) * bytes ≤ 140737488355328 := by omega) (hN : d < N := by decide) : SK P ops Q ⟨some d, .call { callee := .builtin .append, args := #[s, x], argTypes := #[t, t] }, ty, pos, af, none⟩ a w K := by
  obtain ⟨z, ht, hi, hz, hs0, hb0, hE, hKM⟩ := hp.run
  obtain ⟨hm, _, hC⟩ := HM.C_ 0
  refine ⟨Kd.R_append_rows_step (w0 := w) dk w0.heap.size (g0.run a _ rfl HF) s x t e z bytes rfl ht hi hz hs0 hb0 (.slice A n c) xs ys B m c' (fun _ => True) (fun _ => False) (HF.eval hs) (HF.eval hx) (HM.R_ 1) (by rw [hm]; exact hC) (fun x cs hk => hKM _ _ _ x cs hk) (fun _ hk => hk.elim) (fun _ _ => trivial) ((Below.refl _ _).mono HM.sz) HM.sz (by rw [hm]; exact hl) fun v1 w1 h1 _ h3 h4 => ?_⟩
  obtain ⟨A', c1, rfl⟩ := Kd.R_slice h1
  exact h A' c1 _ w1 (HF.put hN _) (Me.app (rs' := [_]) HM h1 h3 h4)
end
section
variable {P : Program} {Q : Exit → Act → World → Prop} {N : Nat} {a : Act} {w W0 w0 : World} {S : Option Nat} {F : List (Nat × Value)} {bs : List Bx} {rs : List Rw} {id : Nat} {x y : Code} {l : List Oper}
theorem rg (h : WL P l.toArray (Exit.then (y.wp P Q) Q) l a w) : WC P ((Code.region id l.toArray false).seq y) Q a w := ⟨wp_seq (wp_region_lit h.out)⟩
theorem rl (h : WL P l.toArray Q l a w) : WC P (Code.region id l.toArray false) Q a w := ⟨wp_region_lit h.out⟩
theorem rn {ops : Array Oper} (h : WC P y Q a w) : WL P ops (Exit.then (y.wp P Q) Q) [] a w := ⟨h.out⟩
theorem sk (h : WC P y Q a w) : WC P Code.skip (Exit.then (y.wp P Q) Q) a w := ⟨wp_skip h.out⟩
theorem skB {i : Nat} (h : WC P y Q a w) : WC P Code.skip (Exit.inBlock i (Exit.then (y.wp P Q) Q)) a w := ⟨wp_skip h.out⟩
theorem sk0 (h : Q .normal a w) : WC P Code.skip Q a w := ⟨wp_skip h⟩
theorem xe (h : Q (.exit id) a w) : WC P (Code.exit id) Q a w := ⟨wp_exit h⟩
theorem xt {K : Act → World → Prop} (h : Q (.exit id) a w) : Exit.then K Q (.exit id) a w := h
theorem ib (h : Q .normal a w) : Exit.inBlock id Q (.exit id) a w := by simpa [Exit.inBlock] using h
theorem bk (h : WC P x (Exit.inBlock id Q) a w) : WC P (Code.block id x) Q a w := ⟨wp_block h.out⟩
theorem lp (J : Nat → Act → World → Prop) (n : Nat) (h0 : J n a w) (hr : ∀ n a w, J n a w → ∀ K : Act → World → Prop, (∀ m a' w', m < n → J m a' w' → K a' w') → WC P x (Exit.then K Q) a w) : WC P (Code.loop x) Q a w := ⟨wp_loop_ghost J n h0 fun n a w h => (hr n a w h _ (fun m a' w' h1 h2 => ⟨m, h1, h2⟩)).out⟩
theorem tr {K : Act → World → Prop} (h : Q .ret a w) : Exit.then K Q .ret a w := h
theorem tb {i : Nat} (h : Q .ret a w) : Exit.inBlock i Q .ret a w := h
theorem rt (h : Q .ret a w) : WC P Code.ret Q a w := ⟨wp_ret h⟩
theorem nlB {ops : Array Oper} {i : Nat} (h : WC P y Q a w) : WL P ops (Exit.inBlock i (Exit.then (y.wp P Q) Q)) [] a w := ⟨h.out⟩
theorem dnB {ops : Array Oper} {i : Nat} {SS : World → Prop} {ds : List Nat} {n fuel k : Nat} {TT : Bool × List (List Nat × List Nat)} (HT : Aside0 (rtab .any ops = TT)) (h : WC P y Q a w) (hc : (readyT TT.2 (bA n k).toList == []) = true := by kernel_rfl) : WA P ops (Exit.inBlock i (Exit.then (y.wp P Q) Q)) SS ds n fuel k a w := dn HT h.out hc
/-- Where ways meet: whatever is said there. -/
theorem cx (J : Act → World → Prop) (h1 : ∀ K : Act → World → Prop, (∀ a w, J a w → K a w) → WC P x (Exit.then K Q) a w) (h2 : ∀ a w, J a w → WC P y Q a w) : WC P (x.seq y) Q a w := ⟨wp_seq (h1 _ fun a w h => (h2 a w h).out).out⟩
theorem sq (h : WC P x (Exit.then (y.wp P Q) Q) a w) : WC P (x.seq y) Q a w := ⟨wp_seq h.out⟩
theorem cT {c : Operand} {b : Bool} (HF : Fr N a F) (h : WC P x Q a w) (hc : ev F c = some (.bool b) := by rfl) (hb : b = true := by rfl) : WC P (Code.cond c x y) Q a w := ⟨wp_cond (t := true) (by rw [HF.eval hc, hb]) h.out⟩
theorem cF {c : Operand} {b : Bool} (HF : Fr N a F) (h : WC P y Q a w) (hc : ev F c = some (.bool b) := by rfl) (hb : b = false := by rfl) : WC P (Code.cond c x y) Q a w := ⟨wp_cond (t := false) (by rw [HF.eval hc, hb]) h.out⟩
theorem cB {c : Operand} {b : Bool} (HF : Fr N a F) (h1 : WC P x Q a w) (h2 : WC P y Q a w) (hc : ev F c = some (.bool b) := by rfl) : WC P (Code.cond c x y) Q a w := by
  cases b
  · exact cF HF h2 hc
  · exact cT HF h1 hc
theorem cD {c : Operand} {p : Prop} [Decidable p] (HF : Fr N a F) (h1 : p → WC P x Q a w) (h2 : ¬p → WC P y Q a w) (hc : ev F c = some (.bool (decide p)) := by rfl) : WC P (Code.cond c x y) Q a w := by
  by_cases hp : p
  · exact cT HF (h1 hp) hc (decide_eq_true hp)
  · exact cF HF (h2 hp) hc (decide_eq_false hp)
/-- The slots ns of a list. -/
def pk (F : List (Nat × Value)) : List Nat → Option (List (Nat × Value))
  | [] => some []
  | n :: ns => match gt F n, pk F ns with | some v, some G => some ((n, v) :: G) | _, _ => none
/-- The entries is of a list. -/
def at1 {α : Type _} : List α → Nat → Option α
  | [], _ => none
  | x :: _, 0 => some x
  | _ :: l, n + 1 => at1 l n
def sel {α : Type _} (l : List α) : List Nat → Option (List α)
  | [] => some []
  | i :: is => match at1 l i, sel l is with | some x, some r => some (x :: r) | _, _ => none
/-- Where two ways meet: what is known there. -/
theorem cs (ns is js : List Nat) {F' : List (Nat × Value)} {bs' : List Bx} {rs' : List Rw} (_ : Fr N a F) (_ : Me W0 w0 S w bs rs) (h1 : ∀ K : Act → World → Prop, (∀ a w, Fr N a F' → Me W0 w0 S w bs' rs' → K a w) → WC P x (Exit.then K Q) a w) (h2 : ∀ a w, Fr N a F' → Me W0 w0 S w bs' rs' → WC P y Q a w) (hF : pk F ns = some F' := by rfl) (hb : sel bs is = some bs' := by rfl) (hr : sel rs js = some rs' := by rfl) : WC P (x.seq y) Q a w := ⟨wp_seq (h1 _ fun a w h3 h4 => (h2 a w h3 h4).out).out⟩
theorem cu (_ : Fr N a F) (_ : Me W0 w0 S w bs rs) (F' : List (Nat × Value)) (bs' : List Bx) (rs' : List Rw) (h1 : ∀ K : Act → World → Prop, (∀ a w, Fr N a F' → Me W0 w0 S w bs' rs' → K a w) → WC P x (Exit.then K Q) a w) (h2 : ∀ a w, Fr N a F' → Me W0 w0 S w bs' rs' → WC P y Q a w) : WC P (x.seq y) Q a w := ⟨wp_seq (h1 _ fun a w h3 h4 => (h2 a w h3 h4).out).out⟩
theorem start {f : Nat} {fn : Func} {c : Code} {R : Ending → World → Prop} (vs : List Value) (hf : P.funcs[f]? = some fn) (hb : fn.body = some c) (hn : fn.ntmps = N) (hl : vs.length ≤ N) (h : ∀ a, Fr N a (num 0 vs) → WC P c (bodyPost P fn R) a w) : Calls P f vs.toArray w R :=
  calls_of_wp hf hb (h _ (by rw [hn]; exact Fr.start vs hl)).out
theorem rt1 {fn : Func} {u : Nat} {v : Value} {R : Ending → World → Prop} (HF : Fr N a F) (hr : fn.results = #[.tmp u]) (hv : gt F u = some v) (h : R (.returned v) w) : bodyPost P fn R .ret a w := by
  refine ⟨HF.df, v, ?_, h⟩
  have := HF.has _ _ hv
  rw [Array.getD_eq_getD_getElem?] at this
  simp [results, hr, this]
theorem dc {ops : Array Oper} {SS : World → Prop} {ds : List Nat} {n fuel k : Nat} {TT : Bool × List (List Nat × List Nat)} (HT : Aside0 (rtab .any ops = TT)) (h : WC P y Q a w) (hc : (readyT TT.2 (bA n k).toList == []) = true := by kernel_rfl) : WA P ops (Exit.then (y.wp P Q) Q) SS ds n fuel k a w := dn HT h.out hc
theorem dw {n : Nat} {ds : List Nat} {TT : Bool × List (List Nat × List Nat)} {BB : List Nat} (hT : rtab .any l.toArray = TT) (hB : waitsOk TT.2 BB = true) (HM : Me W0 w0 S w bs rs) (h : ∀ w, Me W0 w0 S w bs rs → Aside0 (rtab .any l.toArray = TT) → Aside0 (waitsOk TT.2 BB = true) → WA P l.toArray (Exit.then (y.wp P Q) Q) (fun w => Me W0 w0 S w bs rs) ds n n 0 a w) (hn : l.length = n := by rfl) (hm : P.follows .mixedOrders = true := by kernel_rfl) : WC P ((Code.region id l.toArray true).seq y) Q a w :=
  ⟨wp_seq (start_ (n := n) (bA n 0) hm (by simpa using hn) (by subst hn; unfold bA; apply Array.ext' ; simp [List.map_const']) (HM.call (below_drew (Below.refl _ _))) (fun hS => (h _ hS ⟨hT⟩ ⟨hB⟩).out))⟩
theorem dw2 {n : Nat} {ds : List Nat} {TT : Bool × List (List Nat × List Nat)} {BB : List Nat} (hT : rtab .any l.toArray = TT) (hB : waitsOk TT.2 BB = true) {bs' : List Bx} {rs' : List Rw} (HM : Me W0 w0 S w bs rs) (hbs : bs'.Sublist bs) (hrs : rs'.Sublist rs) (h : ∀ w, Me W0 w0 S w bs rs → Aside0 (rtab .any l.toArray = TT) → Aside0 (waitsOk TT.2 BB = true) → WA P l.toArray (Exit.then (y.wp P Q) Q) (fun w => Me W0 w0 S w bs' rs') ds n n 0 a w) (hn : l.length = n := by rfl) (hm : P.follows .mixedOrders = true := by kernel_rfl) : WC P ((Code.region id l.toArray true).seq y) Q a w :=
  ⟨wp_seq (start_ (n := n) (bA n 0) hm (by simpa using hn) (by subst hn; unfold bA; apply Array.ext' ; simp [List.map_const']) ((HM.call (below_drew (Below.refl _ _))).sub hbs hrs) (fun _ => (h _ (HM.call (below_drew (Below.refl _ _))) ⟨hT⟩ ⟨hB⟩).out))⟩
theorem dw2l {n : Nat} {ds : List Nat} {TT : Bool × List (List Nat × List Nat)} {BB : List Nat} (hT : rtab .any l.toArray = TT) (hB : waitsOk TT.2 BB = true) {bs' : List Bx} {rs' : List Rw} (HM : Me W0 w0 S w bs rs) (hbs : bs'.Sublist bs) (hrs : rs'.Sublist rs) (h : ∀ w, Me W0 w0 S w bs rs → Aside0 (rtab .any l.toArray = TT) → Aside0 (waitsOk TT.2 BB = true) → WA P l.toArray Q (fun w => Me W0 w0 S w bs' rs') ds n n 0 a w) (hn : l.length = n := by rfl) (hm : P.follows .mixedOrders = true := by kernel_rfl) : WC P (Code.region id l.toArray true) Q a w :=
  ⟨(start_ (n := n) (bA n 0) hm (by simpa using hn) (by subst hn; unfold bA; apply Array.ext' ; simp [List.map_const']) ((HM.call (below_drew (Below.refl _ _))).sub hbs hrs) (fun _ => (h _ (HM.call (below_drew (Below.refl _ _))) ⟨hT⟩ ⟨hB⟩).out))⟩
/-! ### Results -/
theorem vt {u : Nat} {v : Value} {rl : List ResultVar} {vs : List Value} (HF : Fr N a F) (h : Vals P a.tmps w rl vs) (hv : gt F u = some v := by rfl) : Vals P a.tmps w (.tmp u :: rl) (v :: vs) := by
  have := HF.has u v hv
  subst this
  exact .tmp h
theorem vc {p t g n : Nat} {cs : List Value} {rl : List ResultVar} {vs : List Value} (hs : ST P t n) (HF : Fr N a F) (HM : Me W0 w0 S w bs rs) (h : Vals P a.tmps w rl vs) (hp : gt F p = some (.pointer (some ⟨g, 0, none⟩)) := by rfl) (hm : (⟨g, t, cs⟩ : Bx) ∈ bs := by repeat (first | exact List.mem_cons_self | apply List.mem_cons_of_mem)) (hl : cs.length = n := by rfl) : Vals P a.tmps w (.cell p t :: rl) (.agg cs.toArray :: vs) := by
  obtain ⟨ds, hu, hd, hi⟩ := hs.run
  exact .cell g t cs.toArray (0, 0) ds (HF.has p _ hp) (HM.box _ hm).2 hu (by cases ds <;> first | rfl | exact hd) (by rw [hi, ← hl]; simp) h
theorem rS {fn : Func} {r : ResultVar} {v : Value} {R : Ending → World → Prop} (HF : Fr N a F) (hr : fn.results = #[r]) (hv : Vals P a.tmps w [r] [v]) (h : R (.returned v) w) : bodyPost P fn R .ret a w := ⟨HF.df, v, results_single hr hv, h⟩
theorem rL {fn : Func} {rl : List ResultVar} {vs : List Value} {R : Ending → World → Prop} (HF : Fr N a F) (hr : fn.results = rl.toArray) (hv : Vals P a.tmps w rl vs) (h : R (.returned (.tuple vs.toArray)) w) (hl : vs.length ≠ 1 := by simp) : bodyPost P fn R .ret a w := ⟨HF.df, _, results_list hr hl hv, h⟩
end
end Go.Proofs.Ytoeclfihlhmnpaa.Ex
