/- Small lemmas beside the printed words: a call through a slot that holds a known function; how an argument's data reads as a list of structures. -/
import Derived.Test.YtoeclfihlhmnpaaWAll
import Derived.Deep.Slices
import Derived.Deep.Fields
namespace Go.Proofs.Ytoeclfihlhmnpaa.XW
open Go.RowKit Go.Proofs.YtoeclfihlhmnpaaW.PrintWords Go.Proofs.YtoeclfihlhmnpaaW.PrintLast Go.ChangeShapes Go.WideShapes Go.Deep
set_option linter.unusedVariables false
set_option linter.unusedSimpArgs false

section
variable {P : Program} {ops : Array Oper} {Q : Exit → Act → World → Prop}

/-- The operation is a call through a slot. -/
theorem gate_tmp {rest : List Oper} {o : Oper} {a : Act} {W : World} {t : Tmp} {as : Array Operand} {ts : Array TypeId} (_ho : o.op = .call { callee := .value (.tmp t), args := as, argTypes := ts }) (h : wpList P ops Q (o :: rest) a W) : wpList P ops Q (o :: rest) a W := h

/-- A call through a slot that holds a function without captured variables, in a plain region. -/
theorem goesLT_ {rest : List Oper} {oi : Oper} {a : Act} {w : World} (N : Option Tmp) (hd : oi.dst = N) (hg : oi.guard = none) {f : FuncId} {fn : Func} {t : Tmp} {as : Array Operand} {ts : Array TypeId} (hf : P.funcs[f]? = some fn) (hname : (fn.name == "runtime.NumGoroutine") = false) (hb : fn.body.isSome = true) (args : Array Value)
    (hop : oi.op = .call { callee := .value (.tmp t), args := as, argTypes := ts }) (hfv : a.eval (.tmp t) = .func (.func f) #[] #[]) (hargs : as.map a.eval = args)
    (h : Calls P f args w fun e w' => ∃ v, e = .returned v ∧ wpList P ops Q rest (a.put N v) w') : wpList P ops Q (oi :: rest) a w := by
  refine wpList_plain hg fun K hK => ?_
  have he := enters_ hf hname hb args w
  have hrun : (execOp a.eval oi).run P w = .ok (.enter f args) w := by
    unfold execOp
    simp [hop, resolve, Deferred.ofValue, invoke, hfv, hargs, he]
  unfold Oper.wp
  rw [hrun, Oper.upon_enter]
  refine h.mono fun e w'' hh => ?_
  obtain ⟨v, rfl, hk⟩ := hh
  subst hd
  exact hK _ _ hk

/-- The same in a region that draws its order. -/
theorem goesT_ {oi : Oper} {N : Option Tmp} {a : Act} {w : World} {K : Act → World → Prop} {f : FuncId} {fn : Func} {t : Tmp} {as : Array Operand} {ts : Array TypeId} (hf : P.funcs[f]? = some fn) (hname : (fn.name == "runtime.NumGoroutine") = false) (hb : fn.body.isSome = true) (args : Array Value)
    (hw : Region.wanted oi (yielded ops a.tmps) = true) (hN : oi.dst = N) (hop : oi.op = .call { callee := .value (.tmp t), args := as, argTypes := ts }) (hfv : a.eval (.tmp t) = .func (.func f) #[] #[]) (hargs : as.map a.eval = args)
    (h : Calls P f args w fun e w' => ∃ v, e = .returned v ∧ K (a.put N v) w') : if Region.wanted oi (yielded ops a.tmps) = true then Oper.wp P oi a w K Q else K (a.put N undef) w := by
  refine call_ f args hw hN ?_ h
  have he := enters_ hf hname hb args w
  unfold execOp
  simp [hop, resolve, Deferred.ofValue, invoke, hfv, hargs, he]
/-- The like, for a function value that binds first arguments and captures variables. -/
theorem goesLTC_ {rest : List Oper} {oi : Oper} {a : Act} {w : World} (N : Option Tmp) (hd : oi.dst = N) (hg : oi.guard = none) {f : FuncId} {fn : Func} {t : Tmp} {as : Array Operand} {ts : Array TypeId} (hf : P.funcs[f]? = some fn) (hname : (fn.name == "runtime.NumGoroutine") = false) (hb : fn.body.isSome = true) (args fi cap : Array Value)
    (hop : oi.op = .call { callee := .value (.tmp t), args := as, argTypes := ts }) (hfv : a.eval (.tmp t) = .func (.func f) fi cap) (hargs : fi ++ as.map a.eval ++ cap = args)
    (h : Calls P f args w fun e w' => ∃ v, e = .returned v ∧ wpList P ops Q rest (a.put N v) w') : wpList P ops Q (oi :: rest) a w := by
  refine wpList_plain hg fun K hK => ?_
  have he := enters_ hf hname hb args w
  rw [← hargs] at he
  have hrun : (execOp a.eval oi).run P w = .ok (.enter f args) w := by
    rw [← hargs]
    unfold execOp
    simp [-Array.append_assoc, hop, resolve, Deferred.ofValue, invoke, hfv, he]
  unfold Oper.wp
  rw [hrun, Oper.upon_enter]
  refine h.mono fun e w'' hh => ?_
  obtain ⟨v, rfl, hk⟩ := hh
  subst hd
  exact hK _ _ hk

/-- The same in a region that draws its order. -/
theorem goesTC_ {oi : Oper} {N : Option Tmp} {a : Act} {w : World} {K : Act → World → Prop} {f : FuncId} {fn : Func} {t : Tmp} {as : Array Operand} {ts : Array TypeId} (hf : P.funcs[f]? = some fn) (hname : (fn.name == "runtime.NumGoroutine") = false) (hb : fn.body.isSome = true) (args fi cap : Array Value)
    (hw : Region.wanted oi (yielded ops a.tmps) = true) (hN : oi.dst = N) (hop : oi.op = .call { callee := .value (.tmp t), args := as, argTypes := ts }) (hfv : a.eval (.tmp t) = .func (.func f) fi cap) (hargs : fi ++ as.map a.eval ++ cap = args)
    (h : Calls P f args w fun e w' => ∃ v, e = .returned v ∧ K (a.put N v) w') : if Region.wanted oi (yielded ops a.tmps) = true then Oper.wp P oi a w K Q else K (a.put N undef) w := by
  refine call_ f args hw hN ?_ h
  have he := enters_ hf hname hb args w
  rw [← hargs] at he ⊢
  unfold execOp
  simp [-Array.append_assoc, hop, resolve, Deferred.ofValue, invoke, hfv, he]
end

/-- Draws move out of a store. -/
theorem setCell_drewN_out (w : World) (n : Nat) (a : Addr) (v : Value) : (w.drewN n).setCell a v = (w.setCell a v).drewN n := by
  induction n generalizing w with
  | zero => rfl
  | succ n ih => rw [← World.drew_drewN, World.setCell_drew, ih, World.drew_drewN]

/-! ### What came in, read as data -/
def okInt (k : IntKind) (x : Int) : Prop := (Lit.int k x).wf = true
def OkL {α : Type} (ok : α → Prop) (l : List α) : Prop := l.length ≤ 9223372036854775807 ∧ ∀ x ∈ l, ok x

/-- Whatever reads as data of this type is a value of this kind. -/
def Rdb {α : Type} {H : Type} (enc : TypeId × Value → H) (P : Program) (w : World) (base : Nat) (spare : Nat → Bool) (held : Bool) (d : Kd α) (ok : α → Prop) (t : TypeId) : Prop :=
  ∀ (fuel : Nat) (cs : List Value) (x : DataW H × List MemPlace), DataW.trod enc P w base spare held fuel t cs = some x → ∃ y, d.K w y cs ∧ ok y
/-- The like for fields in line, one cell each. -/
def RdbL {α : Type} {H : Type} (enc : TypeId × Value → H) (P : Program) (w : World) (base : Nat) (spare : Nat → Bool) (held : Bool) (d : Kd α) (ok : α → Prop) (fs : List Field) : Prop :=
  ∀ (n : Nat) (cs : List Value), cs.length = fs.length → (∀ (i : Nat) (f : Field) (c : Value), fs[i]? = some f → cs[i]? = some c → ∃ x, DataW.trod enc P w base spare held n f.type [c] = some x) → ∃ y, d.K w y cs ∧ ok y

section
variable {H : Type} {enc : TypeId × Value → H} {P : Program} {w : World} {base : Nat} {spare : Nat → Bool} {held : Bool} {α β : Type}

theorem rdb_int {k : IntKind} {t : TypeId} (ht : P.underlying t = some (.int k)) : Rdb enc P w base spare held (Kd.int k) (okInt k) t := by
  intro fuel cs x h
  obtain ⟨n, rfl, _, hw⟩ := DataW.trod_int ht h
  exact ⟨n, rfl, hw⟩

theorem rdb_slice {t e : TypeId} {d : Kd α} {ok : α → Prop} (ht : P.underlying t = some (.slice e)) (hc : P.cellsOf e = d.sz) (hr : Rdb enc P w base spare held d ok e) : Rdb enc P w base spare held (Kd.slice e d) (OkL ok) t := by
  intro fuel cs x h
  rcases open_slice ht h with ⟨rfl, _⟩ | ⟨a, len, cap, m, n, D, Pl, rfl, hb, hl, hm, hmm, rfl, hx⟩
  · exact ⟨[], ⟨none, 0, rfl, Nat.le_refl _, rfl, by simp, fun h0 => absurd h0 (by simp)⟩, by simp, by simp⟩
  · have hlm : len ≤ m := by rw [hmm]; split <;> omega
    have hmax : len ≤ 9223372036854775807 := by simp only [maxLen] at hm; omega
    have hex : ∀ i, i < len → ∃ y : List Value × α, w.cells? base (a.add (i * P.cellsOf e)) (P.cellsOf e) = some y.1 ∧ d.K w y.2 y.1 ∧ ok y.2 := by
      intro i hi
      obtain ⟨cs', h1, h2⟩ := hx i (by omega)
      obtain ⟨y, h3, h4⟩ := hr _ _ _ h2
      exact ⟨(cs', y), h1, h3, h4⟩
    by_cases hz : len = 0
    · subst hz
      exact ⟨[], ⟨some a, cap, rfl, Nat.zero_le _, rfl, by simp, fun h0 => absurd h0 (by simp)⟩, by simp, by simp⟩
    · obtain ⟨y0, _⟩ := hex 0 (by omega)
      haveI : Inhabited (List Value × α) := ⟨y0⟩
      obtain ⟨f, hf⟩ := choose_lt hex
      have hlen : ((List.range len).map fun i => (f i).2).length = len := by simp
      refine ⟨(List.range len).map fun i => (f i).2, ⟨some a, cap, by rw [hlen], by rw [hlen]; exact hl, rfl, by rw [hlen]; exact hmax, fun _ => ⟨a, rfl, ?_⟩⟩, by rw [hlen]; exact hmax, ?_⟩
      · intro j p hj
        have hjl : j < len := by
          have := (List.getElem?_eq_some_iff.1 hj).1
          simpa using this
        have hp : p = (f j).2 := by
          rw [List.getElem?_map, List.getElem?_range hjl] at hj
          simpa using hj.symm
        subst hp
        obtain ⟨h1, h2, h3⟩ := hf j hjl
        refine ⟨(f j).1, d.K_len h2, h2, ?_⟩
        intro i u hu
        have hone := d.K_one h2 u (List.mem_of_getElem? hu)
        rw [hc] at h1
        obtain ⟨_, hln, hcell⟩ := World.cells?_some h1
        have hi : i < d.sz := by
          have := (List.getElem?_eq_some_iff.1 hu).1
          rw [d.K_len h2] at this
          exact this
        have := hcell i hi
        rw [hu, Go.Deep.add_add] at this
        exact this
      · intro y hy
        obtain ⟨i, hi, rfl⟩ := List.mem_map.1 hy
        exact (hf i (List.mem_range.1 hi)).2.2

theorem rdb_iso {d : Kd α} {ok : α → Prop} {ok' : β → Prop} {t : TypeId} {f : β → α} (g : α → β) (hfg : ∀ y, f (g y) = y) (hok : ∀ y, ok y → ok' (g y)) (hr : Rdb enc P w base spare held d ok t) : Rdb enc P w base spare held (Kd.iso d f) ok' t := by
  intro fuel cs x h
  obtain ⟨y, h1, h2⟩ := hr fuel cs x h
  exact ⟨g y, by show d.K w (f (g y)) cs; rw [hfg]; exact h1, hok y h2⟩

theorem rdbL_one {d : Kd α} {ok : α → Prop} {f : Field} (hr : Rdb enc P w base spare held d ok f.type) : RdbL enc P w base spare held d ok [f] := by
  intro n cs hl h
  match cs, hl with
  | [c], _ =>
    obtain ⟨x, hx⟩ := h 0 f c rfl rfl
    exact hr _ _ _ hx

theorem rdbL_cons {d : Kd α} {d' : Kd β} {ok : α → Prop} {ok' : β → Prop} {f : Field} {fs : List Field} (hr : Rdb enc P w base spare held d ok f.type) (hs : RdbL enc P w base spare held d' ok' fs) :
    RdbL enc P w base spare held (Kd.pair d d') (fun y => ok y.1 ∧ ok' y.2) (f :: fs) := by
  intro n cs hl h
  match cs, hl with
  | c :: cs, hl =>
    obtain ⟨x, hx⟩ := h 0 f c rfl rfl
    obtain ⟨y, hy, ho⟩ := hr _ _ _ hx
    obtain ⟨z, hz, hp⟩ := hs n cs (by simpa using hl) (fun i g u hg hu => h (i + 1) g u (by simpa using hg) (by simpa using hu))
    exact ⟨(y, z), ⟨[c], cs, rfl, hy, hz⟩, ho, hp⟩

theorem rdb_struct {d : Kd α} {ok : α → Prop} {t : TypeId} {fs : Array Field} (ht : P.underlying t = some (.struct fs)) (hone : oneCellFields P fs = true) (hC : P.cellsOf t = fs.size) (hr : RdbL enc P w base spare held d ok fs.toList) : Rdb enc P w base spare held d ok t := by
  intro fuel cs x h
  obtain ⟨xs, n, _, _, hl, hxs, hf⟩ := DataW.trod_struct ht h
  refine hr n cs (by rw [hl, hC]; simp) ?_
  intro i f c hi hc
  have hi' : fs[i]? = some f := by simpa using hi
  obtain ⟨ho, h1⟩ := hone_of hone i f hi'
  have hlt : i < cs.length := (List.getElem?_eq_some_iff.1 hc).1
  have hxi : i < xs.length := by rw [hxs]; have := hl; rw [hC] at this; omega
  have := hf i f hi'
  rw [ho, h1, List.getElem?_eq_getElem hxi] at this
  have hd : (cs.drop i).take 1 = [c] := by
    rw [List.drop_eq_getElem_cons hlt]
    have : cs[i] = c := (List.getElem?_eq_some_iff.1 hc).2
    simp [this]
  rw [hd] at this
  exact ⟨_, this⟩

theorem rdb_trod {d : Kd α} {ok : α → Prop} {t : TypeId} {v : Value} {dd : DataW H} {ps : List MemPlace} (hr : Rdb enc P w base spare held d ok t) (h : DataW.Trod enc P w base spare held t v dd ps) : ∃ y, d.K w y v.cells.toList ∧ ok y := by
  obtain ⟨fuel, hf⟩ := h
  exact hr _ _ _ hf
end
/-- A row's own block does not hang on its length. -/
theorem ownb0 (A : Option Addr) (n c : Nat) : (Value.slice A n c).ownBlock = (Value.slice A 0 c).ownBlock := by cases A <;> rfl
theorem sz1 (b : UInt8) : (⟨#[b]⟩ : ByteArray).size = 1 := rfl
end Go.Proofs.Ytoeclfihlhmnpaa.XW
