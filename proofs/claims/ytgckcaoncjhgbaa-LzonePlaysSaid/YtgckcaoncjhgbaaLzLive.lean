/- revetmentlaw17.live: the page's example. -/
import Derived.WalkKit
import Derived.WalkSpells
import Derived.WalkLawsBesides
import Derived.Lib.Hide
import Derived.Test.YtgckcaoncjhgbaaLzWrite
import Derived.Test.YtgckcaoncjhgbaaPLx10
import Derived.Test.YtgckcaoncjhgbaaPLx2
import Derived.Test.YtgckcaoncjhgbaaPLx3
import Derived.Test.YtgckcaoncjhgbaaPLx4
namespace Go.Proofs.Ytgckcaoncjhgbaa
open Go.RowKit Go.Proofs.Ytgckcaoncjhgbaa.PL Go.Proofs.YtgckcaoncjhgbaaW.PrintWords Go.Proofs.YtgckcaoncjhgbaaW.PrintLast
set_option linter.unusedVariables false
set_option linter.unusedSimpArgs false
-- conf_Plain.calls lzone_New.calls revetmentlaw17_code.calls
theorem code_any (x : Int) (W : World) : Calls Try.prog 12 #[.int .i64 x] W fun e w' => e = .returned (.int .i64 x) ∧ Below W.heap.size W w' := by
  refine (revetmentlaw17_code.calls x x W rfl).mono ?_
  rintro e w' ⟨rfl, nd, rfl⟩
  exact ⟨rfl, pw_below_drewN (Below.refl _ _) nd⟩
theorem live_new : lzone_New.f 7 4 2 64 24 3 1 3 2 3 7 = some (7, 4, 2, 64, 24, 3, 1, 3, 2, 3, 7, [⟨0, 0, 0⟩, ⟨0, 0, 0⟩, ⟨0, 0, 0⟩], 0) := by
  have h : checkC 7 4 2 64 24 3 1 3 2 3 7 = 0 := by decide
  unfold lzone_New.f conf_Check.f
  rw [Option.bind_some, h]
  rfl
theorem live_w1 : writeZ 7 4 2 64 24 3 1 3 2 3 7 [⟨0, 0, 0⟩, ⟨0, 0, 0⟩, ⟨0, 0, 0⟩] 0 0 72 = (some [⟨3, 72, 0⟩, ⟨0, 0, 0⟩, ⟨0, 0, 0⟩], 0) := by kernel_rfl
theorem live_w2 : writeZ 7 4 2 64 24 3 1 3 2 3 7 [⟨3, 72, 0⟩, ⟨0, 0, 0⟩, ⟨0, 0, 0⟩] 0 72 1 = (none, 6) := by kernel_rfl
set_option maxHeartbeats 4000000 in
set_option maxRecDepth 100000 in
theorem live_any (w : World) : Calls Try.prog 14 #[] w fun e w' => e = .returned (.bool true) ∧ Below w.heap.size w w' := by
  have hw1 : ∀ (W : World) (A : Option Addr) (c : Nat), Kd.C k59 W A 3 ([⟨0, 0, 0⟩, ⟨0, 0, 0⟩, ⟨0, 0, 0⟩] : List S59) → 3 ≤ c → Calls Try.prog 56 #[tabV 7 4 2 64 24 3 1 3 2 3 7 (.slice A 3 c), .int .i64 0, .int .i64 0, .int .i64 72] W fun e w' => ∃ y, e = .returned (.tuple #[tabV 7 4 2 64 24 3 1 3 2 3 7 y, .int .i64 0]) ∧ Kd.R k59 59 w' W.heap.size (fun _ => True) y ([⟨3, 72, 0⟩, ⟨0, 0, 0⟩, ⟨0, 0, 0⟩] : List S59) ∧ Below W.heap.size W w' := by
    intro W A c hC hc
    refine (write_any 7 4 2 64 24 3 1 3 2 3 7 A c [⟨0, 0, 0⟩, ⟨0, 0, 0⟩, ⟨0, 0, 0⟩] 0 0 72 W hC hc).mono ?_
    rintro e w' ⟨v, rfl, hT, hb⟩
    rw [live_w1] at hT ⊢
    rcases hT with ⟨h, _⟩ | ⟨L, y, h, rfl, hR⟩
    · cases h
    · cases h; exact ⟨y, rfl, hR, hb⟩
  have hw2 : ∀ (W : World) (A : Option Addr) (c : Nat), Kd.C k59 W A 3 ([⟨3, 72, 0⟩, ⟨0, 0, 0⟩, ⟨0, 0, 0⟩] : List S59) → 3 ≤ c → Calls Try.prog 56 #[tabV 7 4 2 64 24 3 1 3 2 3 7 (.slice A 3 c), .int .i64 0, .int .i64 72, .int .i64 1] W fun e w' => e = .returned (.tuple #[tabV 0 0 0 0 0 0 0 0 0 0 0 (.slice none 0 0), .int .i64 6]) ∧ Below W.heap.size W w' := by
    intro W A c hC hc
    refine (write_any 7 4 2 64 24 3 1 3 2 3 7 A c [⟨3, 72, 0⟩, ⟨0, 0, 0⟩, ⟨0, 0, 0⟩] 0 72 1 W hC hc).mono ?_
    rintro e w' ⟨v, rfl, hT, hb⟩
    rw [live_w2] at hT ⊢
    rcases hT with ⟨_, rfl⟩ | ⟨L, y, h, _⟩
    · exact ⟨rfl, hb⟩
    · cases h
  have HW1 := Lib.hid hw1; have HW2 := Lib.hid hw2; clear hw1 hw2
  have hnew := fun W => lzone_New.calls 7 4 2 64 24 3 1 3 2 3 7 7 4 2 64 24 3 1 3 2 3 7 [⟨0, 0, 0⟩, ⟨0, 0, 0⟩, ⟨0, 0, 0⟩] 0 W live_new
  have hpl := fun W => conf_Plain.calls 7 4 2 64 24 3 1 3 2 3 7 W rfl
  have hco : ∀ (x : Int) (W : World), Calls Try.prog 12 #[.int .i64 x] W fun e w' => e = .returned (.int .i64 x) ∧ Below W.heap.size W w' := fun x W => code_any x W
  have HN := Lib.hid hnew; have HP := Lib.hid hpl; have HC := Lib.hid hco; clear hnew hpl hco
  go_enter Try.func14, Try.ntmps14
  go_wp2_with first
    | (go_at_call 55; refine (HP.out _).mono ?_; rintro e w1 ⟨rfl, hb1⟩; have HB1 := Lib.hid hb1; clear hb1)
    | (go_at_call 11; refine (HN.out _).mono ?_; rintro e w2 ⟨v, rfl, hR, hb2⟩; obtain ⟨A2, c2, rfl, hle2, hC2⟩ := Kd.R_reads hR; have HB2 := Lib.hid (below_alloc (below_step HB1.out hb2) (tabO 7 4 2 64 24 3 1 3 2 3 7 (.slice A2 3 c2))); have K2 := Lib.hid (blk_new w2 (tabO 7 4 2 64 24 3 1 3 2 3 7 (.slice A2 3 c2))); have C2 := Lib.hid (Kd.C_alloc hC2 (tabO 7 4 2 64 24 3 1 3 2 3 7 (.slice A2 3 c2))); have hg2 : w.heap.size ≤ w2.heap.size := (Nat.le_trans HB1.out.size hb2.size); clear hb2 hR hC2; obtain ⟨a0, a1, a2, a3, a4, a5, a6, a7, a8, a9, a10, a11⟩ := cz12 K2.out; obtain ⟨af0, af1, af2, af3, af4, af5, af6, af7, af8, af9, af10, af11⟩ := fz12 K2.out)
    | (go_at_call 56; with_reducible refine (HW1.out _ _ _ C2.out hle2).mono ?_; rintro e w3 ⟨v, rfl, hR, hb3⟩; obtain ⟨A3, c3, rfl⟩ := Kd.R_slice hR; have K3 := Lib.hid (blk_below K2.out hb3); have HR3 := Lib.hid (R12 (y0 := .int .i64 7) (y1 := .int .i64 4) (y2 := .int .i64 2) (y3 := .int .i64 64) (y4 := .int .i64 24) (y5 := .int .i64 3) (y6 := .int .i64 1) (y7 := .int .i64 3) (y8 := .int .i64 2) (y9 := .int .i64 3) (y10 := .int .i64 7) (y11 := .slice A3 3 c3) hR K3.out (by decide)); have HB3 := Lib.hid (below_step HB2.out hb3); obtain ⟨A3x, c3x, e3, hle3, hC3⟩ := Kd.R_reads HR3.out; obtain ⟨rfl, rfl⟩ : A3 = A3x ∧ c3 = c3x := (by injection e3 with p q r; exact ⟨p, r⟩); have HC3 := Lib.hid hC3; clear hC3 hb3 hR e3; obtain ⟨b0, b1, b2, b3, b4, b5, b6, b7, b8, b9, b10, b11⟩ := cz12 K3.out; obtain ⟨bf0, bf1, bf2, bf3, bf4, bf5, bf6, bf7, bf8, bf9, bf10, bf11⟩ := fz12 K3.out)
    | (go_at_call 56; with_reducible refine (HW2.out _ _ _ HC3.out hle3).mono ?_; rintro e w4 ⟨rfl, hb4⟩; have K4 := Lib.hid (blk_below (put12 K3.out) hb4); have HC4 := Lib.hid (Kd.C_below HC3.out hb4); have HB4 := Lib.hid (below_step (bl12 HB3.out hg2) hb4); clear hb4)
    | (go_at_call 12; refine (HC.out _ _).mono ?_; rintro e w5 ⟨rfl, hb⟩; have K5 := Lib.hid (blk_below (blk_alloc K4.out (tabO 0 0 0 0 0 0 0 0 0 0 0 (.slice none 0 0))) hb); have HC5 := Lib.hid (Kd.C_below (Kd.C_alloc HC4.out (tabO 0 0 0 0 0 0 0 0 0 0 0 (.slice none 0 0))) hb); have HB5 := Lib.hid (below_step (below_alloc HB4.out (tabO 0 0 0 0 0 0 0 0 0 0 0 (.slice none 0 0))) hb); clear hb)
    | (go_at_call 12; refine (HC.out _ _).mono ?_; rintro e w6 ⟨rfl, hb⟩; have K6 := Lib.hid (blk_below K5.out hb); have HC6 := Lib.hid (Kd.C_below HC5.out hb); have HB6 := Lib.hid (below_step HB5.out hb); clear hb)
    | (go_at_call 12; refine (HC.out _ _).mono ?_; rintro e w7 ⟨rfl, hb⟩; have K7 := Lib.hid (blk_below K6.out hb); have HC7 := Lib.hid (Kd.C_below HC6.out hb); have HB7 := Lib.hid (below_step HB6.out hb); clear hb; obtain ⟨k70, k71, k72, k73, k74, k75, k76, k77, k78, k79, k710, k711⟩ := cz12 K7.out; obtain ⟨ad, ea, u0, u1, u2⟩ := at_T59 HC7.out 0 (by decide) (by decide); subst ea; have t : w7.cell? ad = some (.int .i64 3) := u0)
  trace_state
  go_ret
  exact ⟨rfl, HB7.out⟩
end Go.Proofs.Ytgckcaoncjhgbaa
