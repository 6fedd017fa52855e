/- The row of PenRing, out of its pure statement and the walk: every input is answered true. Written by a program of this session's. -/
import Derived.Test.YtnjlcmaelacjkaaRows
import Derived.Test.YtnjlcmaelacjkaaSaysPenRing
import Derived.Test.YtnjlcmaelacjkaaPurePenRing
import Derived.WalkKit
import Derived.ProofKit
import Derived.OpenShut
import Derived.ShutString
import Derived.ChangeOld
import Derived.Below
import Derived.SizedLaws
import Derived.Carry
namespace Go.Proofs.Ytnjlcmaelacjkaa.penRing
open Go.ChangeShapes Go.WideShapes Go.ChangeAt Go.RowKit
open Go.Proofs.YtnjlcmaelacjkaaW.Row Go.Proofs.YtnjlcmaelacjkaaW.PrintWords Go.Proofs.YtnjlcmaelacjkaaW.PrintLast Go.Proofs.Ytnjlcmaelacjkaa.PD3
theorem own : ownKnob Try.prog.godebug = none := by kernel_rfl
theorem laidOut : laidOutB Try.prog = true := by kernel_rfl
set_option maxRecDepth 100000 in
theorem lifted (os : Os) (started : os.Started) (H : Type) (enc : TypeId × Value → H) :
    ReturnsInHanded {} Try.checked os 10 .any (Rows.penRingSpec.pre6 enc Try.prog Try.f10 Rows.penRingRow.domain false) (Rows.penRingSpec.post enc Try.prog Try.f10 false true false false) := by
  refine returnsInHanded_of_change_sized (C := Try.checked) own started (by kernel_rfl) Try.func10
    (ChangeSpec.witness6 (enc := enc) (C := Try.checked) false ⟨#[], #[(.agg #[(.slice none 0 0), (.slice none 0 0), (.slice none 0 0)]), (.agg #[(.int .i64 0), (.int .i64 0)])], []⟩ 8 (by kernel_rfl) (by kernel_rfl) (by kernel_rfl) (by kernel_rfl)) ?_
  intro W base args ds gs before hval0 hW hcnd hsz0 _
  have hsz : (DataW.weightsEach Try.prog (Try.f10.params.toList ++ Rows.penRingSpec.plain.varTypes Try.prog) (ds ++ gs)).all (· ≤ reachBytes) = true := hsz0
  have hval : ∀ (j : Nat) t v, Try.f10.params[j]? = some t → args[j]? = some v → Value.okWide Try.prog W .any base t v := hval0
  have hW' := hW
  obtain ⟨p, q, hA0, hV, rfl, hfz, hnd⟩ := hW
  have hA : DataW.TrodAll enc Try.prog W 0 (fun _ => true) true Try.f10.params.toList args.toList ds p := hA0
  rw [Try.params10] at hA hval hsz
  obtain ⟨v0, vs0, d0, ds0, p0, q0, hargs, rfl, rfl, h0, r0⟩ := trodAll_cons hA
  obtain ⟨v1, vs1, d1, ds1, p1, q1, rfl, rfl, rfl, h1, r1⟩ := trodAll_cons r0
  obtain ⟨rfl, rfl, rfl⟩ := trodAll_nil r1
  obtain rfl : args = #[v0, v1] := by cases args; simp_all
  obtain ⟨rfl, rfl⟩ := trodVars_none hV
  have k0 := h0
  have lt0 : ∀ x ∈ p0, x.block < W.heap.size := by obtain ⟨m, hm⟩ := k0; exact DataW.trod_lt m _ _ _ hm
  obtain ⟨x0, kk0, g0⟩ := open_arg (opens_arr3 Try.underlying51 (by kernel_rfl) (opens_slice (B := 16) z33 Try.underlying22 (by kernel_rfl) (by kernel_rfl) op33)) hsz (j := 0) (t := 51) rfl rfl h0
  obtain ⟨p0_0, q0_0, e0_0, y0_0, p0_1, q0_1, e0_1, y0_1, y0_2⟩ := kk0
  obtain ⟨A0_0, c0_0, f0_0, hc0_0, hr0_0⟩ := y0_0
  obtain ⟨A0_1, c0_1, f0_1, hc0_1, hr0_1⟩ := y0_1
  obtain ⟨A0_2, c0_2, f0_2, hc0_2, hr0_2⟩ := y0_2
  obtain rfl := agg_of_cells (show v0.cells.toList = [.slice A0_0 x0.1.length c0_0, .slice A0_1 x0.2.1.length c0_1, .slice A0_2 x0.2.2.length c0_2] by rw [e0_0, e0_1, f0_0, f0_1, f0_2]; rfl) (by simp)
  have k1 := h1
  have lt1 : ∀ x ∈ p1, x.block < W.heap.size := by obtain ⟨m, hm⟩ := k1; exact DataW.trod_lt m _ _ _ hm
  obtain ⟨x1, kk1, g1⟩ := open_arg (opens_arr2 Try.underlying52 (by kernel_rfl) (opens_int Try.underlying3)) hsz (j := 1) (t := 52) rfl rfl h1
  obtain ⟨p1_0, q1_0, e1_0, y1_0, y1_1⟩ := kk1
  have f1_0 := (show _ = _ from y1_0)
  have f1_1 := (show _ = _ from y1_1)
  obtain rfl := agg_of_cells (show v1.cells.toList = [.int .i64 x1.1, .int .i64 x1.2] by rw [e1_0, f1_0, f1_1]; rfl) (by simp)
  clear hA0 hval0 hsz0 hsz
  obtain ⟨k, hk⟩ := Pure.PenRing x0 x1 g0 g1
  refine (fleuronlaw18_PenRing.calls k A0_0 c0_0 x0.1 A0_1 c0_1 x0.2.1 A0_2 c0_2 x0.2.2 x1.1 x1.2 W hr0_0 hc0_0 hr0_1 hc0_1 hr0_2 hc0_2 hk).mono fun e W' ⟨he, bel⟩ => ?_
  subst he
  exact ⟨_, rfl, _, _, _, [], _, [], hW', trodAll_mk1 (shut_bool Try.underlying4 _), (trodAll_cons_mk (Below.trod laidOut (by kernel_rfl) (of_decide_eq_true (by kernel_rfl)) k0 bel lt0) (trodAll_cons_mk (Below.trod laidOut (by kernel_rfl) (of_decide_eq_true (by kernel_rfl)) k1 bel lt1) trodAll_mk0)), rfl, bel.frame _, fun h => by cases h⟩
theorem over : Rows.penRingRow.holds Try.pinned (OpenSpec.ofChange Rows.penRingSpec) :=
  OpenClaim.holds_of_wide 10 Try.f10 rfl rfl rfl rfl rfl rfl rfl ⟨rfl, rfl, rfl, rfl, rfl⟩ rfl rfl rfl rfl rfl (by kernel_rfl) Try.func10 (by kernel_rfl)
    (of_decide_eq_true (by kernel_rfl)) (by unfold Func.isWrapper; first | (rw [if_pos (by decide +kernel)]; kernel_rfl) | (rw [if_neg (by decide +kernel)]; exact ⟨rfl, rfl⟩))
    (fun os started H enc _ => lifted os started H enc)
theorem proved : Rows.PenRingSaid := over
end Go.Proofs.Ytnjlcmaelacjkaa.penRing
namespace Go.Proofs.Ytnjlcmaelacjkaa
/-- The row, under a short name, for the claim. -/
theorem penRing_holds : Rows.PenRingSaid := penRing.proved
end Go.Proofs.Ytnjlcmaelacjkaa
