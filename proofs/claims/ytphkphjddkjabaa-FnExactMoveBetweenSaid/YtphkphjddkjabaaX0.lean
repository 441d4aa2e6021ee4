-- thin
-- short
-- compact
import Derived.Test.YtphkphjddkjabaaXA
import Derived.Test.YtphkphjddkjabaaProg
import Derived.Below
import Derived.Deep.Draws
import Derived.Deep.AppendLies
import Derived.Maps.AppendAt
import Derived.OwnWalk
import Derived.Laws.BytesArg
import Derived.Laws.MakeOwn
import Derived.Laws.OwnMore
import Derived.Deep.OwnRows
import Derived.Tactics
import Derived.Lib.ConvBytes
import Derived.Laws.Slices
import Derived.WalkKit
import Derived.KernelRfl
import Derived.RowKit3
import Derived.Deep.LoopGhost
import Derived.Deep.QuietTactic
import Derived.BigQuiet
import Derived.WideLaws
import Derived.Deep.DeepCutAuto
import Derived.Deep.CutBlock
import Derived.Deep.RegionHeld3
import Derived.Laws.Rows
import Derived.Lib.AppendStr
import Derived.ArgAppend
import Derived.Laws.IdiomCopy
import Derived.OrdersHeld
import Derived.Laws.BitsLemmas
import Derived.RowKit
import Derived.Test.YtphkphjddkjabaaWAll
import Derived.Test.YtphkphjddkjabaaXW
namespace Go.Proofs.Ytphkphjddkjabaa.X
open Go.RowKit Go.Proofs.Ytphkphjddkjabaa.XW Go.Proofs.YtphkphjddkjabaaW.PrintWords Go.Proofs.YtphkphjddkjabaaW.PrintLast Go.Proofs.YtphkphjddkjabaaW.PrintMore
attribute [local go_sem] max2_int min2_int max_two min_two max_three min_three max_four min_four   -- for this text's walks alone
set_option linter.unusedVariables false
set_option linter.unusedSimpArgs false



def errW : Option Int → Value
 | none => .nilIface
 | some c => .iface 0 (.int .i64 c)
theorem errW_none : errW none = .nilIface := rfl
theorem errW_some (c : Int) : errW (some c) = .iface 0 (.int .i64 c) := rfl

theorem info3 : (Try.prog.info? 3).map (fun i => (i.zero, i.size, i.bytes)) = some (some (.int .i64 0), 1, 8) := by kernel_rfl
theorem info28 : (Try.prog.info? 28).map (fun i => (i.zero, i.size, i.bytes)) = some (some (.slice none 0 0), 1, 24) := by kernel_rfl
theorem info38 : (Try.prog.info? 38).map (fun i => (i.zero, i.size, i.bytes)) = some (some (.agg #[(.int .i64 0), (.int .i64 0)]), 2, 16) := by kernel_rfl
-- the values' own types
structure S_laws_Peg where
 f0 : Int
 f1 : Int
def z_laws_Peg : S_laws_Peg := ⟨(0 : Int), (0 : Int)⟩
def kd_laws_Peg : Kd S_laws_Peg := Kd.iso (Kd.pair (Kd.int .i64) (Kd.int .i64)) (fun x : S_laws_Peg => (x.f0, x.f1))
theorem kd_laws_Peg_open {w : World} {x : S_laws_Peg} {cs : List Value} (h : kd_laws_Peg.K w x cs) : cs = [.int .i64 x.f0, .int .i64 x.f1] := by
 obtain ⟨_, _, rfl, rfl, rfl⟩ := h
 exact rfl
theorem kd_laws_Peg_openM {w : World} {base : Nat} {ok : Nat → Prop} {x : S_laws_Peg} {cs : List Value} (h : kd_laws_Peg.M w base ok x cs) : cs = [.int .i64 x.f0, .int .i64 x.f1] := by
 obtain ⟨_, _, rfl, rfl, rfl⟩ := h
 exact rfl
theorem kd_laws_Peg_mk (w : World) (x : S_laws_Peg)  : kd_laws_Peg.K w x [.int .i64 x.f0, .int .i64 x.f1] := ⟨[.int .i64 x.f0], [.int .i64 x.f1], rfl, rfl, rfl⟩
theorem kd_laws_Peg_mkM (w : World) (base : Nat) (ok : Nat → Prop) (x : S_laws_Peg)  : kd_laws_Peg.M w base ok x [.int .i64 x.f0, .int .i64 x.f1] := ⟨[.int .i64 x.f0], [.int .i64 x.f1], rfl, rfl, rfl⟩
theorem kd_laws_Peg_mkF (W : World) (ok : Nat → Prop) (x : S_laws_Peg) : Kd.FK kd_laws_Peg W ok x [.int .i64 x.f0, .int .i64 x.f1] := fun W2 _ => kd_laws_Peg_mk W2 x
def rd_laws_Peg (xs : List S_laws_Peg) (i : Int) : S_laws_Peg := xs.getD i.toNat z_laws_Peg
theorem at_laws_Peg {w : World} {A : Option Addr} {n : Nat} {xs : List S_laws_Peg} (h : Kd.C kd_laws_Peg w A n xs) (i : Int) (h0 : 0 ≤ i) (h1 : i < n) : ∃ ad , A = some ad ∧ w.cell? (ad.add (i.toNat * 2)) = some (.int .i64 (rd_laws_Peg xs i).f0) ∧ w.cell? ⟨(ad.add (i.toNat * 2)).block, (ad.add (i.toNat * 2)).off + 1, none⟩ = some (.int .i64 (rd_laws_Peg xs i).f1) := by
 obtain ⟨ad, c, e, _, hK, hc0⟩ := Kd.C_get h z_laws_Peg i h0 h1
 have hc : ∀ j u, c[j]? = some u → w.cell? (ad.add (i.toNat * 2 + j)) = some u := hc0
 obtain rfl := kd_laws_Peg_open hK
 exact ⟨ad, e, hc 0 _ rfl, by rw [← add_field _ _ 1 (by omega)]; exact hc 1 _ rfl⟩

structure S_impl_Peg where
 f0 : Int
 f1 : Int
def z_impl_Peg : S_impl_Peg := ⟨(0 : Int), (0 : Int)⟩
def kd_impl_Peg : Kd S_impl_Peg := Kd.iso (Kd.pair (Kd.int .i64) (Kd.int .i64)) (fun x : S_impl_Peg => (x.f0, x.f1))
theorem kd_impl_Peg_open {w : World} {x : S_impl_Peg} {cs : List Value} (h : kd_impl_Peg.K w x cs) : cs = [.int .i64 x.f0, .int .i64 x.f1] := by
 obtain ⟨_, _, rfl, rfl, rfl⟩ := h
 exact rfl
theorem kd_impl_Peg_openM {w : World} {base : Nat} {ok : Nat → Prop} {x : S_impl_Peg} {cs : List Value} (h : kd_impl_Peg.M w base ok x cs) : cs = [.int .i64 x.f0, .int .i64 x.f1] := by
 obtain ⟨_, _, rfl, rfl, rfl⟩ := h
 exact rfl
theorem kd_impl_Peg_mk (w : World) (x : S_impl_Peg)  : kd_impl_Peg.K w x [.int .i64 x.f0, .int .i64 x.f1] := ⟨[.int .i64 x.f0], [.int .i64 x.f1], rfl, rfl, rfl⟩
theorem kd_impl_Peg_mkM (w : World) (base : Nat) (ok : Nat → Prop) (x : S_impl_Peg)  : kd_impl_Peg.M w base ok x [.int .i64 x.f0, .int .i64 x.f1] := ⟨[.int .i64 x.f0], [.int .i64 x.f1], rfl, rfl, rfl⟩
theorem kd_impl_Peg_mkF (W : World) (ok : Nat → Prop) (x : S_impl_Peg) : Kd.FK kd_impl_Peg W ok x [.int .i64 x.f0, .int .i64 x.f1] := fun W2 _ => kd_impl_Peg_mk W2 x
def rd_impl_Peg (xs : List S_impl_Peg) (i : Int) : S_impl_Peg := xs.getD i.toNat z_impl_Peg
theorem at_impl_Peg {w : World} {A : Option Addr} {n : Nat} {xs : List S_impl_Peg} (h : Kd.C kd_impl_Peg w A n xs) (i : Int) (h0 : 0 ≤ i) (h1 : i < n) : ∃ ad , A = some ad ∧ w.cell? (ad.add (i.toNat * 2)) = some (.int .i64 (rd_impl_Peg xs i).f0) ∧ w.cell? ⟨(ad.add (i.toNat * 2)).block, (ad.add (i.toNat * 2)).off + 1, none⟩ = some (.int .i64 (rd_impl_Peg xs i).f1) := by
 obtain ⟨ad, c, e, _, hK, hc0⟩ := Kd.C_get h z_impl_Peg i h0 h1
 have hc : ∀ j u, c[j]? = some u → w.cell? (ad.add (i.toNat * 2 + j)) = some u := hc0
 obtain rfl := kd_impl_Peg_open hK
 exact ⟨ad, e, hc 0 _ rfl, by rw [← add_field _ _ 1 (by omega)]; exact hc 1 _ rfl⟩

def rd_L3 (xs : List (List S_impl_Peg)) (i : Int) : (List S_impl_Peg) := xs.getD i.toNat ([] : List S_impl_Peg)
theorem at_L3 {w : World} {A : Option Addr} {n : Nat} {xs : List (List S_impl_Peg)} (h : Kd.C (Kd.slice 38 kd_impl_Peg) w A n xs) (i : Int) (h0 : 0 ≤ i) (h1 : i < n) : ∃ ad A0 c0, A = some ad ∧ w.cell? (ad.add i.toNat) = some (.slice A0 (rd_L3 xs i).length c0) ∧ (rd_L3 xs i).length ≤ c0 ∧ kd_impl_Peg.C w A0 (rd_L3 xs i).length (rd_L3 xs i) := by
 obtain ⟨ad, c, e, _, hK, hc0⟩ := Kd.C_get h ([] : List S_impl_Peg) i h0 h1
 have hc : ∀ j u, c[j]? = some u → w.cell? (ad.add (i.toNat * 1 + j)) = some u := hc0
 obtain ⟨A0, c0, rfl, l0, g0⟩ := hK
 exact ⟨ad, A0, c0, e, by have hq := hc 0 _ rfl; rwa [Nat.mul_one, Nat.add_zero] at hq, l0, g0⟩

def rd_L4 (xs : List (List S_laws_Peg)) (i : Int) : (List S_laws_Peg) := xs.getD i.toNat ([] : List S_laws_Peg)
theorem at_L4 {w : World} {A : Option Addr} {n : Nat} {xs : List (List S_laws_Peg)} (h : Kd.C (Kd.slice 40 kd_laws_Peg) w A n xs) (i : Int) (h0 : 0 ≤ i) (h1 : i < n) : ∃ ad A0 c0, A = some ad ∧ w.cell? (ad.add i.toNat) = some (.slice A0 (rd_L4 xs i).length c0) ∧ (rd_L4 xs i).length ≤ c0 ∧ kd_laws_Peg.C w A0 (rd_L4 xs i).length (rd_L4 xs i) := by
 obtain ⟨ad, c, e, _, hK, hc0⟩ := Kd.C_get h ([] : List S_laws_Peg) i h0 h1
 have hc : ∀ j u, c[j]? = some u → w.cell? (ad.add (i.toNat * 1 + j)) = some u := hc0
 obtain ⟨A0, c0, rfl, l0, g0⟩ := hK
 exact ⟨ad, A0, c0, e, by have hq := hc 0 _ rfl; rwa [Nat.mul_one, Nat.add_zero] at hq, l0, g0⟩

end Go.Proofs.Ytphkphjddkjabaa.X
