/- The law revetmentlaw44.LoadsOf of the Go program holds for every input. Condition: none beyond the statement's own row. -/
import Derived.Test.YtgckcaoncjhgbaaRows
import Derived.Test.YtgckcaoncjhgbaaOpen
import Derived.Test.YtgckcaoncjhgbaaFLt
import Derived.ShutString
import Derived.Test.YtgckcaoncjhgbaaWSized
set_option maxHeartbeats 2000000
set_option maxRecDepth 100000
namespace Go.Proofs.Ytgckcaoncjhgbaa.loadsOf
open Go.ChangeShapes Go.WideShapes Go.ChangeAt Go.RowKit Go.Proofs.Ytgckcaoncjhgbaa Go.Proofs.Ytgckcaoncjhgbaa.PL Go.Proofs.YtgckcaoncjhgbaaW.PrintWords
open Go.ChangeMaps (open_string shut_string)
set_option linter.unusedVariables false
set_option linter.unusedSimpArgs false
theorem own : ownKnob Try.prog.godebug = none := by kernel_rfl
theorem laidOut : laidOutB Try.prog = true := by kernel_rfl
theorem lifted (os : Os) (started : os.Started) (H : Type) (enc : TypeId × Value -> H) :
  ReturnsInHanded {} Try.checked os 10 .any (Rows.loadsOfSpec.pre6 enc Try.prog Try.f10 Rows.loadsOfRow.domain false) (Rows.loadsOfSpec.post enc Try.prog Try.f10 false true false false) := by
 refine returnsInHanded_of_change_sized (C := Try.checked) own started (by kernel_rfl) Try.func10
  (ChangeSpec.witness6 (enc := enc) (C := Try.checked) false ⟨#[], #[.agg #[.int .i64 0, .int .i64 0, .int .i64 0, .int .i64 0, .int .i64 0, .int .i64 0, .int .i64 0, .int .i64 0, .int .i64 0, .int .i64 0, .int .i64 0], .int .i64 0, .int .i64 0, .slice none 0 0], []⟩ 8 (by kernel_rfl) (by kernel_rfl) (by kernel_rfl) (by kernel_rfl)) ?_
 intro W base args ds gs before hval0 hW hcnd hsz0 _
 have hsz : (DataW.weightsEach Try.prog (Try.f10.params.toList ++ Rows.loadsOfSpec.plain.varTypes Try.prog) (ds ++ gs)).all (· <= reachBytes) = true := hsz0
 have hval : ∀ (j : Nat) t v, Try.f10.params[j]? = some t -> args[j]? = some v -> Value.okWide Try.prog W .any base t v := hval0
 have hW' := hW
 obtain ⟨p, q, hA0, hV, rfl, hfz, hnd⟩ := hW
 have hA : DataW.TrodAll enc Try.prog W 0 (fun _ => true) true Try.f10.params.toList args.toList ds p := hA0
 rw [Try.params10] at hA hval hsz
 obtain ⟨v0, vs0, d0, ds0, p0, q0, hargs, rfl, rfl, h0, r0⟩ := trodAll_cons hA
 obtain ⟨v1, vs1, d1, ds1, p1, q1, rfl, rfl, rfl, h1, r1⟩ := trodAll_cons r0
 obtain ⟨v2, vs2, d2, ds2, p2, q2, rfl, rfl, rfl, h2, r2⟩ := trodAll_cons r1
 obtain ⟨v3, vs3, d3, ds3, p3, q3, rfl, rfl, rfl, h3, r3⟩ := trodAll_cons r2
 obtain ⟨rfl, rfl, rfl⟩ := trodAll_nil r3
 obtain rfl : args = #[v0, v1, v2, v3] := by cases args; simp_all
 obtain ⟨rfl, rfl⟩ := trodVars_none hV
 have k0 := h0
 have lt0 : ∀ x ∈ p0, x.block < W.heap.size := by obtain ⟨m, hm⟩ := k0; exact DataW.trod_lt m _ _ _ hm
 obtain ⟨⟨a0_0, a0_1, a0_2, a0_3, a0_4, a0_5, a0_6, a0_7, a0_8, a0_9, a0_10⟩, cs0, e0, K0, ⟨w0_0, ⟨w0_1, ⟨w0_2, ⟨w0_3, ⟨w0_4, ⟨w0_5, ⟨w0_6, ⟨w0_7, ⟨w0_8, ⟨w0_9, w0_10⟩⟩⟩⟩⟩⟩⟩⟩⟩⟩⟩ := open_struct Try.underlying23 (zc_ Try.underlying23 (by kernel_rfl) (jU_ rfl (by kernel_rfl) (km_ Try.underlying3) (jU_ rfl (by kernel_rfl) (km_ Try.underlying3) (jU_ rfl (by kernel_rfl) (km_ Try.underlying3) (jU_ rfl (by kernel_rfl) (km_ Try.underlying3) (jU_ rfl (by kernel_rfl) (km_ Try.underlying3) (jU_ rfl (by kernel_rfl) (km_ Try.underlying3) (jU_ rfl (by kernel_rfl) (km_ Try.underlying3) (jU_ rfl (by kernel_rfl) (km_ Try.underlying3) (jU_ rfl (by kernel_rfl) (km_ Try.underlying3) (jU_ rfl (by kernel_rfl) (km_ Try.underlying3) (opensF_one rfl (by kernel_rfl) (km_ Try.underlying3))))))))))))) (hval 0 23 v0 rfl rfl) h0
 obtain ⟨_, _, rfl, rfl, ⟨_, _, rfl, rfl, ⟨_, _, rfl, rfl, ⟨_, _, rfl, rfl, ⟨_, _, rfl, rfl, ⟨_, _, rfl, rfl, ⟨_, _, rfl, rfl, ⟨_, _, rfl, rfl, ⟨_, _, rfl, rfl, ⟨_, _, rfl, rfl, rfl⟩⟩⟩⟩⟩⟩⟩⟩⟩⟩ := K0
 have e0 : v0 = .agg #[.int .i64 a0_0, .int .i64 a0_1, .int .i64 a0_2, .int .i64 a0_3, .int .i64 a0_4, .int .i64 a0_5, .int .i64 a0_6, .int .i64 a0_7, .int .i64 a0_8, .int .i64 a0_9, .int .i64 a0_10] := e0
 subst e0
 have k1 := h1
 have lt1 : ∀ x ∈ p1, x.block < W.heap.size := by obtain ⟨m, hm⟩ := k1; exact DataW.trod_lt m _ _ _ hm
 obtain ⟨a1, rfl, _, _, w1⟩ := open_int Try.underlying3 (hval 1 3 v1 rfl rfl) h1
 have k2 := h2
 have lt2 : ∀ x ∈ p2, x.block < W.heap.size := by obtain ⟨m, hm⟩ := k2; exact DataW.trod_lt m _ _ _ hm
 obtain ⟨a2, rfl, _, _, w2⟩ := open_int Try.underlying3 (hval 2 3 v2 rfl rfl) h2
 have k3 := h3
 have lt3 : ∀ x ∈ p3, x.block < W.heap.size := by obtain ⟨m, hm⟩ := k3; exact DataW.trod_lt m _ _ _ hm
 obtain ⟨a3, A3, c3, rfl, y3, hC3, w3⟩ := open_slice_of Try.underlying49 (zJ_ Try.underlying49 (by kernel_rfl) (opens_iso (fun x : S65 => (x.f0, x.f1, x.f2, x.f3, x.f4, x.f5)) (fun y => (⟨y.1, y.2.1, y.2.2.1, y.2.2.2.1, y.2.2.2.2.1, y.2.2.2.2.2⟩ : S65)) (fun _ => rfl) (zc_ Try.underlying65 (by kernel_rfl) (jU_ rfl (by kernel_rfl) (km_ Try.underlying3) (jU_ rfl (by kernel_rfl) (km_ Try.underlying3) (jU_ rfl (by kernel_rfl) (km_ Try.underlying3) (jU_ rfl (by kernel_rfl) (km_ Try.underlying3) (jU_ rfl (by kernel_rfl) (zJ_ Try.underlying57 (by kernel_rfl) (km_ Try.underlying5)) (opensF_one rfl (by kernel_rfl) (opens_bool Try.underlying4)))))))))) (hval 3 49 v3 rfl rfl) h3
 refine (revetmentlaw44_LoadsOf.calls (w := W) (hr3 := hC3) (hc3 := y3) (h := (Geo.loadsOf_true a0_0 a0_1 a0_2 a0_3 a0_4 a0_5 a0_6 a0_7 a0_8 a0_9 a0_10 a1 a2 a3))).mono fun e W' ⟨he, bel⟩ => ?_
 subst he
 exact ⟨_, rfl, _, _, _, [], _, [], hW', trodAll_mk1 (shut_bool Try.underlying4 _), (trodAll_cons_mk (Below.trod laidOut (by kernel_rfl) (of_decide_eq_true (by kernel_rfl)) k0 bel lt0) (trodAll_cons_mk (Below.trod laidOut (by kernel_rfl) (of_decide_eq_true (by kernel_rfl)) k1 bel lt1) (trodAll_cons_mk (Below.trod laidOut (by kernel_rfl) (of_decide_eq_true (by kernel_rfl)) k2 bel lt2) (trodAll_cons_mk (Below.trod laidOut (by kernel_rfl) (of_decide_eq_true (by kernel_rfl)) k3 bel lt3) trodAll_mk0)))), rfl, bel.frame _, fun h => by cases h⟩
theorem over : Rows.loadsOfRow.holds Try.pinned (OpenSpec.ofChange Rows.loadsOfSpec) :=
 OpenClaim.holds_of_wide 10 Try.f10 rfl rfl rfl rfl rfl rfl rfl ⟨rfl, rfl, rfl, rfl, rfl⟩ rfl rfl rfl rfl rfl (by kernel_rfl) Try.func10 (by kernel_rfl)
  (of_decide_eq_true (by kernel_rfl)) (by unfold Func.isWrapper; first | (rw [if_pos (by decide +kernel)]; kernel_rfl) | (rw [if_neg (by decide +kernel)]; exact ⟨rfl, rfl⟩))
  (fun os started H enc _ => lifted os started H enc)
theorem proved : Rows.LoadsOfSaid := over
end Go.Proofs.Ytgckcaoncjhgbaa.loadsOf
namespace Go.Proofs.Ytgckcaoncjhgbaa
theorem loadsOf_holds : Rows.LoadsOfSaid := loadsOf.proved
end Go.Proofs.Ytgckcaoncjhgbaa
