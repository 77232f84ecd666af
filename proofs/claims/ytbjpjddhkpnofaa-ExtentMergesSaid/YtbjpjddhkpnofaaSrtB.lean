/- symMerge's greater case. -/
import Derived.Test.YtbjpjddhkpnofaaSrtA
namespace Go.Proofs.Ytbjpjddhkpnofaa
open Go.Shelf Go.RowKit Go.Lib Go.Sort Go.Proofs.Stab
set_option linter.unusedVariables false
set_option linter.unusedSimpArgs false
set_option linter.unusedSectionVars false
variable {P : Program} {α : Type} [Inhabited α] {enc : α → List Value} {k : Nat} {w0 W : World} {blk off : Nat} {d : Array α}
set_option maxHeartbeats 8000000 in
set_option maxRecDepth 1000000 in
theorem sym3a_any (L : Lays P k) (R : RK enc k) (cf : α → α → Int) (g : Nat) (cb : Array Value) (eg : ∀ args w, (callFunc g args).run P w = .ok (.enter g args) w) (hcmp : CmpOk P g cb enc cf) (f : Nat)
    (ih : ∀ (cap a m b : Nat) (d : Array α) (W : World), b - a ≤ f → a < m → m < b → b ≤ d.size → d.size < 1000000 → SW enc k w0 blk off d W → Calls P 48 #[.slice (some ⟨blk, off, none⟩) d.size cap, .int .i64 a, .int .i64 m, .int .i64 b, .func (.func g) #[] cb] W fun e w' => e = .returned (.tuple #[]) ∧ SW enc k w0 blk off (symM (ltOf cf) f a m b d) w')
    (cap a m b : Nat) (S : SW enc k w0 blk off d W) (hf : b - a ≤ f + 1) (ham : a + 1 < m) (hmb : m + 1 < b) (hmid : (a + b) / 2 < m) (hb : b ≤ d.size) (hsz : d.size < 1000000) :
    Calls P 48 #[.slice (some ⟨blk, off, none⟩) d.size cap, .int .i64 a, .int .i64 m, .int .i64 b, .func (.func g) #[] cb] W fun e w' => e = .returned (.tuple #[]) ∧ SW enc k w0 blk off (symM (ltOf cf) (f + 1) a m b d) w' := by
  have mixed := L.mixed; have aE := L.aE; have zE := L.zE; have t0 := L.t0; have a0 := L.a0; have z0 := L.z0; have v0 := L.v0; have t3 := L.t3; have a3 := L.a3; have z3 := L.z3; have v3 := L.v3; have t4 := L.t4; have a4 := L.a4; have z4 := L.z4; have v4 := L.v4; have t22 := L.t22; have a22 := L.a22; have z22 := L.z22; have v22 := L.v22; have t43 := L.t43; have a43 := L.a43; have z43 := L.z43; have v43 := L.v43; have t75 := L.t75; have a75 := L.a75; have z75 := L.z75; have v75 := L.v75
  have S0 : Aside (SW enc k w0 blk off d W) := S
  have HC : Aside _ := hcmp
  have IH : Aside _ := ih
  have e54 : ∀ args w, (callFunc 54 args).run P w = .ok (.enter 54 args) w := enters_of L.f54 (by kernel_rfl) rfl
  have e48 : ∀ args w, (callFunc 48 args).run P w = .ok (.enter 48 args) w := enters_of L.f48 (by kernel_rfl) rfl
  have hunf : symM (ltOf cf) (f + 1) a m b d = (if (a + b) / 2 < (a + b) / 2 + m - symS (ltOf cf) a m b d ∧ (a + b) / 2 + m - symS (ltOf cf) a m b d < b then symM (ltOf cf) f ((a + b) / 2) ((a + b) / 2 + m - symS (ltOf cf) a m b d) b (if a < symS (ltOf cf) a m b d ∧ symS (ltOf cf) a m b d < (a + b) / 2 then symM (ltOf cf) f a (symS (ltOf cf) a m b d) ((a + b) / 2) (symR (ltOf cf) a m b d) else symR (ltOf cf) a m b d) else (if a < symS (ltOf cf) a m b d ∧ symS (ltOf cf) a m b d < (a + b) / 2 then symM (ltOf cf) f a (symS (ltOf cf) a m b d) ((a + b) / 2) (symR (ltOf cf) a m b d) else symR (ltOf cf) a m b d)) := by
    conv => lhs; unfold symM
    rw [if_neg (by omega), if_neg (by omega)]
  have hsr : symR (ltOf cf) a m b d = if symS (ltOf cf) a m b d < m ∧ m < (a + b) / 2 + m - symS (ltOf cf) a m b d then rotL m (m - symS (ltOf cf) a m b d) ((a + b) / 2 + m - symS (ltOf cf) a m b d - m) d else d := rfl
  have hsS : symS (ltOf cf) a m b d = bs (fun c => !ltOf cf d[(a + b) / 2 + m - 1 - c]! d[c]!) ((a + b) / 2 + m - b) ((a + b) / 2) := by unfold symS; rw [if_pos hmid, if_pos hmid]
  have hm1 : (((m : Int) - (a : Int)) == 1) = false := by simp only [beq_eq_false_iff_ne, ne_eq]; omega
  have hm2 : (((b : Int) - (m : Int)) == 1) = false := by simp only [beq_eq_false_iff_ne, ne_eq]; omega
  have hq : ((a : Int) + (b : Int)) / 2 < (m : Int) := by omega
  have HU := Lib.hid hunf; have HR := Lib.hid hsr; have HS := Lib.hid hsS; have HF := Lib.hid hf
  clear S hcmp ih hunf hsr hsS hf hmid
  obtain ⟨mid, hmid⟩ : ∃ x, x = (a + b) / 2 := ⟨_, rfl⟩
  have HM := Lib.hid hmid; clear hmid
  go_enter L.f48, Try.ntmps48
  go_wp2
  have hz : ((a : Int) + (b : Int)) / 2 = (mid : Int) := by have := HM.out; omega
  rw [hz] at hq
  rw [hz]
  clear hz
  have hb1 : a < mid := by have := HM.out; omega
  have hb2 : mid < b := by have := HM.out; omega
  have hb3 : mid ≤ b - mid + a := by have := HM.out; omega
  have hb4 : b - mid + a ≤ mid + 1 := by have := HM.out; omega
  go_loopg [20, 21] b (fun kx v20 v21 wr => ∃ (i j : Nat), v20 = .int .i64 i ∧ v21 = .int .i64 j ∧ mid + m - b ≤ i ∧ i ≤ j ∧ j ≤ mid ∧ j - i ≤ kx ∧ Aside (SW enc k w0 blk off d wr) ∧ Hid (bs (fun c => !ltOf cf d[mid + m - 1 - c]! d[c]!) i j = symS (ltOf cf) a m b d))
  case atStart => exact ⟨mid + m - b, mid, by first | rfl | (congr 1; omega), by first | rfl | (congr 1; omega), by omega, by omega, by omega, by omega, S0, show _ = _ by rw [HS.out, HM.out]⟩
  case round =>
    clear S0
    obtain ⟨i, j, rfl, rfl, hai, hij, hjb, hkx, S1, HE⟩ := hrel
    by_cases hlt : i < j
    · have hltz : (i : Int) < (j : Int) := by omega
      obtain ⟨h, hh⟩ : ∃ h, h = (i + j) / 2 := ⟨_, rfl⟩
      go_wp2_with fail
      have hz : ((i : Int) + (j : Int)) / 2 = (h : Int) := by omega
      rw [hz]
      have hih : i ≤ h := by omega
      have hhj : h < j := by omega
      have HH := Lib.hid hh
      clear hz hh
      have x1 : (h : Int) ≤ (mid : Int) + (m : Int) - 1 := by omega
      have x2 : (h : Int) < (mid : Int) + (m : Int) := by omega
      have x3 : (h : Int) + 1 ≤ (mid : Int) + (m : Int) := by omega
      cases hL : ltOf cf d[mid + m - 1 - h]! d[h]! with
      | true =>
        have ea1 : ((mid : Int) + (m : Int) - 1 - (h : Int)).toNat = mid + m - 1 - h := by omega
        have pa1 : (0 : Int) ≤ (mid : Int) + (m : Int) - 1 - (h : Int) := by omega
        have ba1 : (mid : Int) + (m : Int) - 1 - (h : Int) < (d.size : Int) := by omega
        have ra1 : IntKind.i64.wrap ((mid : Int) + (m : Int) - 1 - (h : Int)) = (mid : Int) + (m : Int) - 1 - (h : Int) := by rw [IntKind.wrap_i64]; omega
        have ec1 : ((h : Int)).toNat = h := by omega
        have pc1 : (0 : Int) ≤ (h : Int) := by omega
        have bc1 : (h : Int) < (d.size : Int) := by omega
        have rc1 : IntKind.i64.wrap ((h : Int)) = (h : Int) := by rw [IntKind.wrap_i64]; omega
        obtain ⟨x1, hx1⟩ : ∃ x, x = d[mid + m - 1 - h]! := ⟨_, rfl⟩
        obtain ⟨y1, hy1⟩ : ∃ x, x = d[h]! := ⟨_, rfl⟩
        have la1 := S1.out.ld R P (mid + m - 1 - h) (by omega)
        have lb1 := S1.out.ld R P (h) (by omega)
        rw [← hx1] at la1
        rw [← hy1] at lb1
        have hc1 := fun p : Bel wr => HC.out p.v x1 y1
        have hd1 : decide (cf x1 y1 < 0) = true := by rw [hx1, hy1]; exact hL
        have hv1 : (cf x1 y1 < 0) := of_decide_eq_true hd1
        clear hx1 hy1
        go_wp2_with fail
        refine wp_region_bel (by assumption) (by kernel_rfl) ?_
        repeat (quiet_step (first | (go_at_fn g; refine Calls.bel_of (hc1 _))))
        refine wpQuiet_nil ?_
        intro _ hw'
        obtain ⟨pq, hw''⟩ := hw'
        subst hw''
        have S2 : Aside (SW enc k w0 blk off d pq.v) := S1.out.bel pq
        clear la1 lb1 hc1 S1
        generalize pq.v = w2 at S2 ⊢
        clear pq
        go_wp2
        go_roundg (h - i)
        case measure => omega
        case rel => exact ⟨i, h, rfl, by first | go_num | (congr 1; omega), by omega, by omega, by omega, Nat.le_refl _, S2, show _ = _ by rw [← HE.out]; conv => rhs; unfold bs; rw [if_pos hlt, ← HH.out, hL, if_neg (by simp)]⟩
      | false =>
        have ea1 : ((mid : Int) + (m : Int) - 1 - (h : Int)).toNat = mid + m - 1 - h := by omega
        have pa1 : (0 : Int) ≤ (mid : Int) + (m : Int) - 1 - (h : Int) := by omega
        have ba1 : (mid : Int) + (m : Int) - 1 - (h : Int) < (d.size : Int) := by omega
        have ra1 : IntKind.i64.wrap ((mid : Int) + (m : Int) - 1 - (h : Int)) = (mid : Int) + (m : Int) - 1 - (h : Int) := by rw [IntKind.wrap_i64]; omega
        have ec1 : ((h : Int)).toNat = h := by omega
        have pc1 : (0 : Int) ≤ (h : Int) := by omega
        have bc1 : (h : Int) < (d.size : Int) := by omega
        have rc1 : IntKind.i64.wrap ((h : Int)) = (h : Int) := by rw [IntKind.wrap_i64]; omega
        obtain ⟨x1, hx1⟩ : ∃ x, x = d[mid + m - 1 - h]! := ⟨_, rfl⟩
        obtain ⟨y1, hy1⟩ : ∃ x, x = d[h]! := ⟨_, rfl⟩
        have la1 := S1.out.ld R P (mid + m - 1 - h) (by omega)
        have lb1 := S1.out.ld R P (h) (by omega)
        rw [← hx1] at la1
        rw [← hy1] at lb1
        have hc1 := fun p : Bel wr => HC.out p.v x1 y1
        have hd1 : decide (cf x1 y1 < 0) = false := by rw [hx1, hy1]; exact hL
        have hv1 : ¬ (cf x1 y1 < 0) := of_decide_eq_false hd1
        clear hx1 hy1
        go_wp2_with fail
        refine wp_region_bel (by assumption) (by kernel_rfl) ?_
        repeat (quiet_step (first | (go_at_fn g; refine Calls.bel_of (hc1 _))))
        refine wpQuiet_nil ?_
        intro _ hw'
        obtain ⟨pq, hw''⟩ := hw'
        subst hw''
        have S2 : Aside (SW enc k w0 blk off d pq.v) := S1.out.bel pq
        clear la1 lb1 hc1 S1
        generalize pq.v = w2 at S2 ⊢
        clear pq
        go_wp2
        go_roundg (j - (h + 1))
        case measure => omega
        case rel => exact ⟨h + 1, j, by first | go_num | (congr 1; omega), rfl, by omega, by omega, by omega, Nat.le_refl _, S2, show _ = _ by rw [← HE.out]; conv => rhs; unfold bs; rw [if_pos hlt, ← HH.out, hL, if_pos (by simp)]⟩
    · have hltz : ¬ (i : Int) < (j : Int) := by omega
      have hr : symS (ltOf cf) a m b d = i := by rw [← HE.out]; unfold bs; rw [if_neg hlt]
      have HSi := Lib.hid hr
      clear hr HE
      obtain ⟨e, he⟩ : ∃ e, e = mid + m - i := ⟨_, rfl⟩
      have hez : (mid : Int) + (m : Int) - (i : Int) = (e : Int) := by omega
      have heb : e ≤ b := by omega
      have hem : mid ≤ e := by omega
      have HEe := Lib.hid he
      have HEz := Lib.hid hez
      clear he hez
      have zhf1 : mid - a ≤ f := by have := HF.out; omega
      have zhf2 : b - mid ≤ f := by have := HF.out; omega
      obtain ⟨d1, hd1⟩ : ∃ x, x = (if i < m ∧ m < e then rotL m (m - i) (e - m) d else d) := ⟨_, rfl⟩
      obtain ⟨d2, hd2⟩ : ∃ x, x = (if a < i ∧ i < mid then symM (ltOf cf) f a i mid d1 else d1) := ⟨_, rfl⟩
      have hfin : symM (ltOf cf) (f + 1) a m b d = (if mid < e ∧ e < b then symM (ltOf cf) f mid e b d2 else d2) := by
        rw [HU.out, HR.out, HSi.out, ← HM.out, ← HEe.out, hd2, hd1]
      have z1 : d1.size = d.size := by
        rw [hd1]; split
        · rename_i h
          exact (rotL_rot m (m - i + (e - m)) (m - i) (e - m) d (Nat.le_refl _) (by omega) (by omega) (by omega) (by omega)).1
        · rfl
      have z2 : d2.size = d.size := by
        rw [hd2]; split
        · rw [size_symM]; exact z1
        · exact z1
      have HFIN := Lib.hid hfin
      have HD1 := Lib.hid hd1
      have HD2 := Lib.hid hd2
      have Z1 := Lib.hid z1
      have Z2 := Lib.hid z2
      clear hfin hd1 hd2 z1 z2
      go_upto_region 38 with fail
      go_cut [24] from 25 (fun s24 wx => s24 = .int .i64 e ∧ Aside (SW enc k w0 blk off d wx))
      case first =>
        go_wp2
        go_meet
        exact ⟨by first | exact congrArg _ HEz.out | (rw [← HEz.out]), S1⟩
      case rest =>
        clear S1
        obtain ⟨rfl, S1⟩ := hcut
        go_step
        go_step
        go_cut [24] from 25 (fun s24 wx => s24 = .int .i64 e ∧ Aside (SW enc k w0 blk off d1 wx))
        case first =>
          have C1 : (i < m ∧ m < e) ∨ ¬ i < m ∨ (i < m ∧ ¬ m < e) := by omega
          rcases C1 with ⟨p1, p2⟩ | p1 | ⟨p1, p2⟩
          · have p1z : (i : Int) < (m : Int) := by omega
            have p2z : (m : Int) < (e : Int) := by omega
            have hc := rotate_any L R g cb cap i m e S1.out p1 p2 (by omega) hsz
            have hd : d1 = rotL m (m - i) (e - m) d := by rw [HD1.out, if_pos ⟨p1, p2⟩]
            rw [← hd] at hc
            clear hd
            go_wp2_with (go_at_fn 54; refine hc.mono ?_; rintro _ w2 ⟨rfl, S2⟩)
            go_meet
            exact ⟨rfl, S2⟩
          · have p1z : ¬ ((i : Int) < (m : Int)) := by omega
            have hd : d1 = d := by rw [HD1.out, if_neg (fun h => p1 h.1)]
            rw [← hd] at S1
            have HDD := Lib.hid hd
            clear hd
            go_wp2
            go_meet
            exact ⟨rfl, S1⟩
          · have p1z : (i : Int) < (m : Int) := by omega
            have p2z : ¬ ((m : Int) < (e : Int)) := by omega
            have hd : d1 = d := by rw [HD1.out, if_neg (fun h => p2 h.2)]
            rw [← hd] at S1
            have HDD := Lib.hid hd
            clear hd
            go_wp2
            go_meet
            exact ⟨rfl, S1⟩
        case rest =>
          clear S1
          obtain ⟨rfl, S1⟩ := hcut
          go_step
          go_step
          go_cut [24] from 25 (fun s24 wx => s24 = .int .i64 e ∧ Aside (SW enc k w0 blk off d2 wx))
          case first =>
            have C2 : (a < i ∧ i < mid) ∨ ¬ a < i ∨ (a < i ∧ ¬ i < mid) := by omega
            rcases C2 with ⟨p1, p2⟩ | p1 | ⟨p1, p2⟩
            · have p1z : (a : Int) < (i : Int) := by omega
              have p2z : (i : Int) < (mid : Int) := by omega
              have hc := IH.out cap a i mid d1 wc zhf1 p1 p2 (by have := Z1.out; omega) (by have := Z1.out; omega) S1.out
              rw [Z1.out] at hc
              have hd : d2 = symM (ltOf cf) f a i mid d1 := by rw [HD2.out, if_pos ⟨p1, p2⟩]
              rw [← hd] at hc
              clear hd
              go_wp2_with (go_at_fn 48; refine hc.mono ?_; rintro _ w2 ⟨rfl, S2⟩)
              go_meet
              exact ⟨rfl, S2⟩
            · have p1z : ¬ ((a : Int) < (i : Int)) := by omega
              have hd : d2 = d1 := by rw [HD2.out, if_neg (fun h => p1 h.1)]
              rw [← hd] at S1
              have HDD := Lib.hid hd
              clear hd
              go_wp2
              go_meet
              exact ⟨rfl, S1⟩
            · have p1z : (a : Int) < (i : Int) := by omega
              have p2z : ¬ ((i : Int) < (mid : Int)) := by omega
              have hd : d2 = d1 := by rw [HD2.out, if_neg (fun h => p2 h.2)]
              rw [← hd] at S1
              have HDD := Lib.hid hd
              clear hd
              go_wp2
              go_meet
              exact ⟨rfl, S1⟩
          case rest =>
            clear S1
            obtain ⟨rfl, S1⟩ := hcut
            have C3 : (mid < e ∧ e < b) ∨ ¬ mid < e ∨ (mid < e ∧ ¬ e < b) := by omega
            rcases C3 with ⟨p1, p2⟩ | p1 | ⟨p1, p2⟩
            · have p1z : (mid : Int) < (e : Int) := by omega
              have p2z : (e : Int) < (b : Int) := by omega
              have hc := IH.out cap mid e b d2 wc zhf2 p1 p2 (by have := Z2.out; omega) (by have := Z2.out; omega) S1.out
              rw [Z2.out] at hc
              go_wp2_with (go_at_fn 48; refine hc.mono ?_; rintro _ w2 ⟨rfl, S2⟩)
              (try simp only [Exit.inBlock, Exit.then]); refine bodyPost_end (results_none rfl _ _ _) rfl ?_
              exact ⟨rfl, by rw [HFIN.out, if_pos ⟨p1, p2⟩]; exact S2⟩
            · have p1z : ¬ ((mid : Int) < (e : Int)) := by omega
              go_wp2
              (try simp only [Exit.inBlock, Exit.then]); refine bodyPost_end (results_none rfl _ _ _) rfl ?_
              exact ⟨rfl, by rw [HFIN.out, if_neg (fun h => p1 h.1)]; exact S1.out⟩
            · have p1z : (mid : Int) < (e : Int) := by omega
              have p2z : ¬ ((e : Int) < (b : Int)) := by omega
              go_wp2
              (try simp only [Exit.inBlock, Exit.then]); refine bodyPost_end (results_none rfl _ _ _) rfl ?_
              exact ⟨rfl, by rw [HFIN.out, if_neg (fun h => p2 h.2)]; exact S1.out⟩
set_option maxHeartbeats 8000000 in
set_option maxRecDepth 1000000 in
theorem sym3b_any (L : Lays P k) (R : RK enc k) (cf : α → α → Int) (g : Nat) (cb : Array Value) (eg : ∀ args w, (callFunc g args).run P w = .ok (.enter g args) w) (hcmp : CmpOk P g cb enc cf) (f : Nat)
    (ih : ∀ (cap a m b : Nat) (d : Array α) (W : World), b - a ≤ f → a < m → m < b → b ≤ d.size → d.size < 1000000 → SW enc k w0 blk off d W → Calls P 48 #[.slice (some ⟨blk, off, none⟩) d.size cap, .int .i64 a, .int .i64 m, .int .i64 b, .func (.func g) #[] cb] W fun e w' => e = .returned (.tuple #[]) ∧ SW enc k w0 blk off (symM (ltOf cf) f a m b d) w')
    (cap a m b : Nat) (S : SW enc k w0 blk off d W) (hf : b - a ≤ f + 1) (ham : a + 1 < m) (hmb : m + 1 < b) (hmid : ¬ (a + b) / 2 < m) (hb : b ≤ d.size) (hsz : d.size < 1000000) :
    Calls P 48 #[.slice (some ⟨blk, off, none⟩) d.size cap, .int .i64 a, .int .i64 m, .int .i64 b, .func (.func g) #[] cb] W fun e w' => e = .returned (.tuple #[]) ∧ SW enc k w0 blk off (symM (ltOf cf) (f + 1) a m b d) w' := by
  have mixed := L.mixed; have aE := L.aE; have zE := L.zE; have t0 := L.t0; have a0 := L.a0; have z0 := L.z0; have v0 := L.v0; have t3 := L.t3; have a3 := L.a3; have z3 := L.z3; have v3 := L.v3; have t4 := L.t4; have a4 := L.a4; have z4 := L.z4; have v4 := L.v4; have t22 := L.t22; have a22 := L.a22; have z22 := L.z22; have v22 := L.v22; have t43 := L.t43; have a43 := L.a43; have z43 := L.z43; have v43 := L.v43; have t75 := L.t75; have a75 := L.a75; have z75 := L.z75; have v75 := L.v75
  have S0 : Aside (SW enc k w0 blk off d W) := S
  have HC : Aside _ := hcmp
  have IH : Aside _ := ih
  have e54 : ∀ args w, (callFunc 54 args).run P w = .ok (.enter 54 args) w := enters_of L.f54 (by kernel_rfl) rfl
  have e48 : ∀ args w, (callFunc 48 args).run P w = .ok (.enter 48 args) w := enters_of L.f48 (by kernel_rfl) rfl
  have hunf : symM (ltOf cf) (f + 1) a m b d = (if (a + b) / 2 < (a + b) / 2 + m - symS (ltOf cf) a m b d ∧ (a + b) / 2 + m - symS (ltOf cf) a m b d < b then symM (ltOf cf) f ((a + b) / 2) ((a + b) / 2 + m - symS (ltOf cf) a m b d) b (if a < symS (ltOf cf) a m b d ∧ symS (ltOf cf) a m b d < (a + b) / 2 then symM (ltOf cf) f a (symS (ltOf cf) a m b d) ((a + b) / 2) (symR (ltOf cf) a m b d) else symR (ltOf cf) a m b d) else (if a < symS (ltOf cf) a m b d ∧ symS (ltOf cf) a m b d < (a + b) / 2 then symM (ltOf cf) f a (symS (ltOf cf) a m b d) ((a + b) / 2) (symR (ltOf cf) a m b d) else symR (ltOf cf) a m b d)) := by
    conv => lhs; unfold symM
    rw [if_neg (by omega), if_neg (by omega)]
  have hsr : symR (ltOf cf) a m b d = if symS (ltOf cf) a m b d < m ∧ m < (a + b) / 2 + m - symS (ltOf cf) a m b d then rotL m (m - symS (ltOf cf) a m b d) ((a + b) / 2 + m - symS (ltOf cf) a m b d - m) d else d := rfl
  have hsS : symS (ltOf cf) a m b d = bs (fun c => !ltOf cf d[(a + b) / 2 + m - 1 - c]! d[c]!) (a) (m) := by unfold symS; rw [if_neg hmid, if_neg hmid]
  have hm1 : (((m : Int) - (a : Int)) == 1) = false := by simp only [beq_eq_false_iff_ne, ne_eq]; omega
  have hm2 : (((b : Int) - (m : Int)) == 1) = false := by simp only [beq_eq_false_iff_ne, ne_eq]; omega
  have hq : ¬ (((a : Int) + (b : Int)) / 2 < (m : Int)) := by omega
  have HU := Lib.hid hunf; have HR := Lib.hid hsr; have HS := Lib.hid hsS; have HF := Lib.hid hf
  clear S hcmp ih hunf hsr hsS hf hmid
  obtain ⟨mid, hmid⟩ : ∃ x, x = (a + b) / 2 := ⟨_, rfl⟩
  have HM := Lib.hid hmid; clear hmid
  go_enter L.f48, Try.ntmps48
  go_wp2
  have hz : ((a : Int) + (b : Int)) / 2 = (mid : Int) := by have := HM.out; omega
  rw [hz] at hq
  rw [hz]
  clear hz
  have hb1 : a < mid := by have := HM.out; omega
  have hb2 : mid < b := by have := HM.out; omega
  have hb3 : mid ≤ b - mid + a := by have := HM.out; omega
  have hb4 : b - mid + a ≤ mid + 1 := by have := HM.out; omega
  go_loopg [20, 21] b (fun kx v20 v21 wr => ∃ (i j : Nat), v20 = .int .i64 i ∧ v21 = .int .i64 j ∧ a ≤ i ∧ i ≤ j ∧ j ≤ m ∧ j - i ≤ kx ∧ Aside (SW enc k w0 blk off d wr) ∧ Hid (bs (fun c => !ltOf cf d[mid + m - 1 - c]! d[c]!) i j = symS (ltOf cf) a m b d))
  case atStart => exact ⟨a, m, by first | rfl | (congr 1; omega), by first | rfl | (congr 1; omega), by omega, by omega, by omega, by omega, S0, show _ = _ by rw [HS.out, HM.out]⟩
  case round =>
    clear S0
    obtain ⟨i, j, rfl, rfl, hai, hij, hjb, hkx, S1, HE⟩ := hrel
    by_cases hlt : i < j
    · have hltz : (i : Int) < (j : Int) := by omega
      obtain ⟨h, hh⟩ : ∃ h, h = (i + j) / 2 := ⟨_, rfl⟩
      go_wp2_with fail
      have hz : ((i : Int) + (j : Int)) / 2 = (h : Int) := by omega
      rw [hz]
      have hih : i ≤ h := by omega
      have hhj : h < j := by omega
      have HH := Lib.hid hh
      clear hz hh
      have x1 : (h : Int) ≤ (mid : Int) + (m : Int) - 1 := by omega
      have x2 : (h : Int) < (mid : Int) + (m : Int) := by omega
      have x3 : (h : Int) + 1 ≤ (mid : Int) + (m : Int) := by omega
      cases hL : ltOf cf d[mid + m - 1 - h]! d[h]! with
      | true =>
        have ea1 : ((mid : Int) + (m : Int) - 1 - (h : Int)).toNat = mid + m - 1 - h := by omega
        have pa1 : (0 : Int) ≤ (mid : Int) + (m : Int) - 1 - (h : Int) := by omega
        have ba1 : (mid : Int) + (m : Int) - 1 - (h : Int) < (d.size : Int) := by omega
        have ra1 : IntKind.i64.wrap ((mid : Int) + (m : Int) - 1 - (h : Int)) = (mid : Int) + (m : Int) - 1 - (h : Int) := by rw [IntKind.wrap_i64]; omega
        have ec1 : ((h : Int)).toNat = h := by omega
        have pc1 : (0 : Int) ≤ (h : Int) := by omega
        have bc1 : (h : Int) < (d.size : Int) := by omega
        have rc1 : IntKind.i64.wrap ((h : Int)) = (h : Int) := by rw [IntKind.wrap_i64]; omega
        obtain ⟨x1, hx1⟩ : ∃ x, x = d[mid + m - 1 - h]! := ⟨_, rfl⟩
        obtain ⟨y1, hy1⟩ : ∃ x, x = d[h]! := ⟨_, rfl⟩
        have la1 := S1.out.ld R P (mid + m - 1 - h) (by omega)
        have lb1 := S1.out.ld R P (h) (by omega)
        rw [← hx1] at la1
        rw [← hy1] at lb1
        have hc1 := fun p : Bel wr => HC.out p.v x1 y1
        have hd1 : decide (cf x1 y1 < 0) = true := by rw [hx1, hy1]; exact hL
        have hv1 : (cf x1 y1 < 0) := of_decide_eq_true hd1
        clear hx1 hy1
        go_wp2_with fail
        refine wp_region_bel (by assumption) (by kernel_rfl) ?_
        repeat (quiet_step (first | (go_at_fn g; refine Calls.bel_of (hc1 _))))
        refine wpQuiet_nil ?_
        intro _ hw'
        obtain ⟨pq, hw''⟩ := hw'
        subst hw''
        have S2 : Aside (SW enc k w0 blk off d pq.v) := S1.out.bel pq
        clear la1 lb1 hc1 S1
        generalize pq.v = w2 at S2 ⊢
        clear pq
        go_wp2
        go_roundg (h - i)
        case measure => omega
        case rel => exact ⟨i, h, rfl, by first | go_num | (congr 1; omega), by omega, by omega, by omega, Nat.le_refl _, S2, show _ = _ by rw [← HE.out]; conv => rhs; unfold bs; rw [if_pos hlt, ← HH.out, hL, if_neg (by simp)]⟩
      | false =>
        have ea1 : ((mid : Int) + (m : Int) - 1 - (h : Int)).toNat = mid + m - 1 - h := by omega
        have pa1 : (0 : Int) ≤ (mid : Int) + (m : Int) - 1 - (h : Int) := by omega
        have ba1 : (mid : Int) + (m : Int) - 1 - (h : Int) < (d.size : Int) := by omega
        have ra1 : IntKind.i64.wrap ((mid : Int) + (m : Int) - 1 - (h : Int)) = (mid : Int) + (m : Int) - 1 - (h : Int) := by rw [IntKind.wrap_i64]; omega
        have ec1 : ((h : Int)).toNat = h := by omega
        have pc1 : (0 : Int) ≤ (h : Int) := by omega
        have bc1 : (h : Int) < (d.size : Int) := by omega
        have rc1 : IntKind.i64.wrap ((h : Int)) = (h : Int) := by rw [IntKind.wrap_i64]; omega
        obtain ⟨x1, hx1⟩ : ∃ x, x = d[mid + m - 1 - h]! := ⟨_, rfl⟩
        obtain ⟨y1, hy1⟩ : ∃ x, x = d[h]! := ⟨_, rfl⟩
        have la1 := S1.out.ld R P (mid + m - 1 - h) (by omega)
        have lb1 := S1.out.ld R P (h) (by omega)
        rw [← hx1] at la1
        rw [← hy1] at lb1
        have hc1 := fun p : Bel wr => HC.out p.v x1 y1
        have hd1 : decide (cf x1 y1 < 0) = false := by rw [hx1, hy1]; exact hL
        have hv1 : ¬ (cf x1 y1 < 0) := of_decide_eq_false hd1
        clear hx1 hy1
        go_wp2_with fail
        refine wp_region_bel (by assumption) (by kernel_rfl) ?_
        repeat (quiet_step (first | (go_at_fn g; refine Calls.bel_of (hc1 _))))
        refine wpQuiet_nil ?_
        intro _ hw'
        obtain ⟨pq, hw''⟩ := hw'
        subst hw''
        have S2 : Aside (SW enc k w0 blk off d pq.v) := S1.out.bel pq
        clear la1 lb1 hc1 S1
        generalize pq.v = w2 at S2 ⊢
        clear pq
        go_wp2
        go_roundg (j - (h + 1))
        case measure => omega
        case rel => exact ⟨h + 1, j, by first | go_num | (congr 1; omega), rfl, by omega, by omega, by omega, Nat.le_refl _, S2, show _ = _ by rw [← HE.out]; conv => rhs; unfold bs; rw [if_pos hlt, ← HH.out, hL, if_pos (by simp)]⟩
    · have hltz : ¬ (i : Int) < (j : Int) := by omega
      have hr : symS (ltOf cf) a m b d = i := by rw [← HE.out]; unfold bs; rw [if_neg hlt]
      have HSi := Lib.hid hr
      clear hr HE
      obtain ⟨e, he⟩ : ∃ e, e = mid + m - i := ⟨_, rfl⟩
      have hez : (mid : Int) + (m : Int) - (i : Int) = (e : Int) := by omega
      have heb : e ≤ b := by omega
      have hem : mid ≤ e := by omega
      have HEe := Lib.hid he
      have HEz := Lib.hid hez
      clear he hez
      have zhf1 : mid - a ≤ f := by have := HF.out; omega
      have zhf2 : b - mid ≤ f := by have := HF.out; omega
      obtain ⟨d1, hd1⟩ : ∃ x, x = (if i < m ∧ m < e then rotL m (m - i) (e - m) d else d) := ⟨_, rfl⟩
      obtain ⟨d2, hd2⟩ : ∃ x, x = (if a < i ∧ i < mid then symM (ltOf cf) f a i mid d1 else d1) := ⟨_, rfl⟩
      have hfin : symM (ltOf cf) (f + 1) a m b d = (if mid < e ∧ e < b then symM (ltOf cf) f mid e b d2 else d2) := by
        rw [HU.out, HR.out, HSi.out, ← HM.out, ← HEe.out, hd2, hd1]
      have z1 : d1.size = d.size := by
        rw [hd1]; split
        · rename_i h
          exact (rotL_rot m (m - i + (e - m)) (m - i) (e - m) d (Nat.le_refl _) (by omega) (by omega) (by omega) (by omega)).1
        · rfl
      have z2 : d2.size = d.size := by
        rw [hd2]; split
        · rw [size_symM]; exact z1
        · exact z1
      have HFIN := Lib.hid hfin
      have HD1 := Lib.hid hd1
      have HD2 := Lib.hid hd2
      have Z1 := Lib.hid z1
      have Z2 := Lib.hid z2
      clear hfin hd1 hd2 z1 z2
      go_upto_region 38 with fail
      go_cut [24] from 25 (fun s24 wx => s24 = .int .i64 e ∧ Aside (SW enc k w0 blk off d wx))
      case first =>
        go_wp2
        go_meet
        exact ⟨by first | exact congrArg _ HEz.out | (rw [← HEz.out]), S1⟩
      case rest =>
        clear S1
        obtain ⟨rfl, S1⟩ := hcut
        go_step
        go_step
        go_cut [24] from 25 (fun s24 wx => s24 = .int .i64 e ∧ Aside (SW enc k w0 blk off d1 wx))
        case first =>
          have C1 : (i < m ∧ m < e) ∨ ¬ i < m ∨ (i < m ∧ ¬ m < e) := by omega
          rcases C1 with ⟨p1, p2⟩ | p1 | ⟨p1, p2⟩
          · have p1z : (i : Int) < (m : Int) := by omega
            have p2z : (m : Int) < (e : Int) := by omega
            have hc := rotate_any L R g cb cap i m e S1.out p1 p2 (by omega) hsz
            have hd : d1 = rotL m (m - i) (e - m) d := by rw [HD1.out, if_pos ⟨p1, p2⟩]
            rw [← hd] at hc
            clear hd
            go_wp2_with (go_at_fn 54; refine hc.mono ?_; rintro _ w2 ⟨rfl, S2⟩)
            go_meet
            exact ⟨rfl, S2⟩
          · have p1z : ¬ ((i : Int) < (m : Int)) := by omega
            have hd : d1 = d := by rw [HD1.out, if_neg (fun h => p1 h.1)]
            rw [← hd] at S1
            have HDD := Lib.hid hd
            clear hd
            go_wp2
            go_meet
            exact ⟨rfl, S1⟩
          · have p1z : (i : Int) < (m : Int) := by omega
            have p2z : ¬ ((m : Int) < (e : Int)) := by omega
            have hd : d1 = d := by rw [HD1.out, if_neg (fun h => p2 h.2)]
            rw [← hd] at S1
            have HDD := Lib.hid hd
            clear hd
            go_wp2
            go_meet
            exact ⟨rfl, S1⟩
        case rest =>
          clear S1
          obtain ⟨rfl, S1⟩ := hcut
          go_step
          go_step
          go_cut [24] from 25 (fun s24 wx => s24 = .int .i64 e ∧ Aside (SW enc k w0 blk off d2 wx))
          case first =>
            have C2 : (a < i ∧ i < mid) ∨ ¬ a < i ∨ (a < i ∧ ¬ i < mid) := by omega
            rcases C2 with ⟨p1, p2⟩ | p1 | ⟨p1, p2⟩
            · have p1z : (a : Int) < (i : Int) := by omega
              have p2z : (i : Int) < (mid : Int) := by omega
              have hc := IH.out cap a i mid d1 wc zhf1 p1 p2 (by have := Z1.out; omega) (by have := Z1.out; omega) S1.out
              rw [Z1.out] at hc
              have hd : d2 = symM (ltOf cf) f a i mid d1 := by rw [HD2.out, if_pos ⟨p1, p2⟩]
              rw [← hd] at hc
              clear hd
              go_wp2_with (go_at_fn 48; refine hc.mono ?_; rintro _ w2 ⟨rfl, S2⟩)
              go_meet
              exact ⟨rfl, S2⟩
            · have p1z : ¬ ((a : Int) < (i : Int)) := by omega
              have hd : d2 = d1 := by rw [HD2.out, if_neg (fun h => p1 h.1)]
              rw [← hd] at S1
              have HDD := Lib.hid hd
              clear hd
              go_wp2
              go_meet
              exact ⟨rfl, S1⟩
            · have p1z : (a : Int) < (i : Int) := by omega
              have p2z : ¬ ((i : Int) < (mid : Int)) := by omega
              have hd : d2 = d1 := by rw [HD2.out, if_neg (fun h => p2 h.2)]
              rw [← hd] at S1
              have HDD := Lib.hid hd
              clear hd
              go_wp2
              go_meet
              exact ⟨rfl, S1⟩
          case rest =>
            clear S1
            obtain ⟨rfl, S1⟩ := hcut
            have C3 : (mid < e ∧ e < b) ∨ ¬ mid < e ∨ (mid < e ∧ ¬ e < b) := by omega
            rcases C3 with ⟨p1, p2⟩ | p1 | ⟨p1, p2⟩
            · have p1z : (mid : Int) < (e : Int) := by omega
              have p2z : (e : Int) < (b : Int) := by omega
              have hc := IH.out cap mid e b d2 wc zhf2 p1 p2 (by have := Z2.out; omega) (by have := Z2.out; omega) S1.out
              rw [Z2.out] at hc
              go_wp2_with (go_at_fn 48; refine hc.mono ?_; rintro _ w2 ⟨rfl, S2⟩)
              (try simp only [Exit.inBlock, Exit.then]); refine bodyPost_end (results_none rfl _ _ _) rfl ?_
              exact ⟨rfl, by rw [HFIN.out, if_pos ⟨p1, p2⟩]; exact S2⟩
            · have p1z : ¬ ((mid : Int) < (e : Int)) := by omega
              go_wp2
              (try simp only [Exit.inBlock, Exit.then]); refine bodyPost_end (results_none rfl _ _ _) rfl ?_
              exact ⟨rfl, by rw [HFIN.out, if_neg (fun h => p1 h.1)]; exact S1.out⟩
            · have p1z : (mid : Int) < (e : Int) := by omega
              have p2z : ¬ ((e : Int) < (b : Int)) := by omega
              go_wp2
              (try simp only [Exit.inBlock, Exit.then]); refine bodyPost_end (results_none rfl _ _ _) rfl ?_
              exact ⟨rfl, by rw [HFIN.out, if_neg (fun h => p2 h.2)]; exact S1.out⟩
set_option maxHeartbeats 4000000 in
theorem sym_any (L : Lays P k) (R : RK enc k) (cf : α → α → Int) (g : Nat) (cb : Array Value) (eg : ∀ args w, (callFunc g args).run P w = .ok (.enter g args) w) (hcmp : CmpOk P g cb enc cf) (f : Nat) :
    ∀ (cap a m b : Nat) (d : Array α) (W : World), b - a ≤ f → a < m → m < b → b ≤ d.size → d.size < 1000000 → SW enc k w0 blk off d W → Calls P 48 #[.slice (some ⟨blk, off, none⟩) d.size cap, .int .i64 a, .int .i64 m, .int .i64 b, .func (.func g) #[] cb] W fun e w' => e = .returned (.tuple #[]) ∧ SW enc k w0 blk off (symM (ltOf cf) f a m b d) w' := by
  induction f with
  | zero => intro cap a m b d W h h1 h2; omega
  | succ f ih =>
    intro cap a m b d W hf ham hmb hbd hsz S
    by_cases c1 : m - a = 1
    · have := sym1_any L R cf g cb eg hcmp cap a m b (by omega) S hmb hbd hsz
      unfold symM
      rw [if_pos c1]
      exact this
    · by_cases c2 : b - m = 1
      · have := sym2_any L R cf g cb eg hcmp cap a m b (by omega) S (by omega) hbd hsz
        unfold symM
        rw [if_neg c1, if_pos c2]
        exact this
      · by_cases c3 : (a + b) / 2 < m
        · exact sym3a_any L R cf g cb eg hcmp f ih cap a m b S hf (by omega) (by omega) c3 hbd hsz
        · exact sym3b_any L R cf g cb eg hcmp f ih cap a m b S hf (by omega) (by omega) c3 hbd hsz

end Go.Proofs.Ytbjpjddhkpnofaa
