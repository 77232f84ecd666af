/- revetmentref17.Right. -/
/- revetmentref07.Small, revetmentref18.Much. -/
import Derived.Test.YtgckcaoncjhgbaaFMa
set_option maxHeartbeats 4000000
set_option maxRecDepth 100000
open Go.Lib (hid)
namespace Go.Proofs.Ytgckcaoncjhgbaa
open Go.RowKit Go.Proofs.Ytgckcaoncjhgbaa.PL Go.Proofs.YtgckcaoncjhgbaaW.PrintWords Go.Proofs.YtgckcaoncjhgbaaW.PrintLast
set_option linter.unusedVariables false
set_option linter.unusedSimpArgs false
attribute [local go_sem] List.getElem?_toArray List.getElem?_cons_succ List.getElem?_cons_zero mL tL cL xL rL oL
theorem zone_b {W W' : World} {p q r : Addr} {x y z : Value} (h : W.cell? p = some x /\ W.cell? q = some y /\ W.cell? r = some z) (hb : Below W.heap.size W W') : W'.cell? p = some x /\ W'.cell? q = some y /\ W'.cell? r = some z := by
  have up : ∀ {p : Addr} {v : Value}, W.cell? p = some v -> W'.cell? p = some v := fun hp => (hb.cell (World.block_lt_of_cell? _ _ hp)).trans hp
  exact ⟨up h.1, up h.2.1, up h.2.2⟩
def vf_ : Bool × List (List Nat × List Nat) := (true, [([], []), ([0], [0]), ([], []), ([1, 2], [1, 2]), ([3], [3]), ([], []), ([5], [5]), ([6], [6]), ([], []), ([8, 4, 7, 0, 1, 2, 3, 4, 8], [4, 8]), ([7, 9, 0, 1, 2, 3, 4, 5, 6, 7, 8, 9], [7])])
theorem vP_ : rtab .any (kT_ Try.f87 6) = vf_ := by kernel_rfl
theorem vN_ : jO_ vf_.2 [0, 1, 0, 7, 15, 0, 32, 96, 0, 511, 1023] = true := by kernel_rfl
theorem rright_a (id m u b c z s me o a l : Int) (A0 : Option Addr) (c0 : Nat) (L : List S59) (w : World) (hr0 : Kd.C k59 w A0 L.length L) (hc0 : L.length <= c0) (hl : L.length <= 1000000) (hk : ¬ jn_ id m u b c z s me o a l = 0) :
    Calls Try.prog 87 #[tabV id m u b c z s me o a l (.slice A0 L.length c0)] w fun e w' => e = .returned (.bool (kf_ id m u b c z s me o a l L)) /\ Below w.heap.size w w' := by
  have H := hid (Pk.start w)
  have hv : kf_ id m u b c z s me o a l L = false := by unfold kf_; rw [decide_eq_false hk]; rfl
  rw [hv]
  obtain ⟨n, hn⟩ : ∃ n, n = L.length := ⟨_, rfl⟩
  rw [<- hn] at hr0 hc0 hl ⊢
  have hck := fun (r : Int) (W : World) (e : jn_ id m u b c z s me o a l = r) => revetmentref07_Check.calls id m u b c z s me o a l r W (by unfold revetmentref07_Check.f; rw [e])
  have hck2 := fun W => hck _ W rfl; clear hck hv
  generalize jn_ id m u b c z s me o a l = E at hk hck2
  have kb : (E == 0) = false := beq_eq_false_iff_ne.mpr hk; have kb2 : (E != 0) = true := bne_iff_ne.mpr hk
  have HK := hid hck2; clear hck2 hk hr0 hn
  go_enter Try.func87, Try.ntmps87
  go_wp2_with first
    | (apply bh H 1 (tL id m u b c z s me o a l (.slice A0 n c0)) 35; clear H; intro gT W1 H; obtain ⟨-, cT⟩ := n1_ H)
    | (go_at_call 13; refine (HK.out _).mono ?_; rintro e W2 ⟨rfl, hb⟩; clear cT; replace H := pc H hb; clear hb; obtain ⟨-, cT⟩ := n1_ H)
  go_ret
  exact ⟨rfl, H.out.below⟩
theorem rright_b (id m u b c z s me o a l : Int) (A0 : Option Addr) (c0 : Nat) (L : List S59) (w : World) (hr0 : Kd.C k59 w A0 L.length L) (hc0 : L.length <= c0) (hl : L.length <= 1000000) (hk : jn_ id m u b c z s me o a l = 0) (hz : ¬ (L.length : Int) = z) :
    Calls Try.prog 87 #[tabV id m u b c z s me o a l (.slice A0 L.length c0)] w fun e w' => e = .returned (.bool (kf_ id m u b c z s me o a l L)) /\ Below w.heap.size w w' := by
  have H := hid (Pk.start w)
  have hv : kf_ id m u b c z s me o a l L = false := by unfold kf_; rw [decide_eq_false hz, Bool.false_and, Bool.and_false]
  rw [hv]
  obtain ⟨n, hn⟩ : ∃ n, n = L.length := ⟨_, rfl⟩
  rw [<- hn] at hr0 hc0 hl ⊢
  have hck := fun (r : Int) (W : World) (e : jn_ id m u b c z s me o a l = r) => revetmentref07_Check.calls id m u b c z s me o a l r W (by unfold revetmentref07_Check.f; rw [e])
  rw [<- hn] at hz
  have kb : ((n : Int) == z) = false := beq_eq_false_iff_ne.mpr hz; have kb2 : ((n : Int) != z) = true := bne_iff_ne.mpr hz
  have HK := hid (fun W => hck 0 W hk); clear hck hk hv hr0 hn hz
  go_enter Try.func87, Try.ntmps87
  go_wp2_with first
    | (apply bh H 1 (tL id m u b c z s me o a l (.slice A0 n c0)) 35; clear H; intro gT W1 H; obtain ⟨-, cT⟩ := n1_ H)
    | (go_at_call 13; refine (HK.out _).mono ?_; rintro e W2 ⟨rfl, hb⟩; clear cT; replace H := pc H hb; clear hb; obtain ⟨-, cT⟩ := n1_ H)
  go_ret
  exact ⟨rfl, H.out.below⟩
theorem rright_c (id m u b c z s me o a l : Int) (A0 : Option Addr) (c0 : Nat) (L : List S59) (w : World) (hr0 : Kd.C k59 w A0 L.length L) (hc0 : L.length <= c0) (hl : L.length <= 1000000) (hk : jn_ id m u b c z s me o a l = 0) (hz : (L.length : Int) = z) :
    Calls Try.prog 87 #[tabV id m u b c z s me o a l (.slice A0 L.length c0)] w fun e w' => e = .returned (.bool (kf_ id m u b c z s me o a l L)) /\ Below w.heap.size w w' := by
  have H := hid (Pk.start w)
  obtain ⟨n, hn⟩ : ∃ n, n = L.length := ⟨_, rfl⟩
  rw [<- hn] at hr0 hc0 hl ⊢
  have hck := fun (r : Int) (W : World) (e : jn_ id m u b c z s me o a l = r) => revetmentref07_Check.calls id m u b c z s me o a l r W (by unfold revetmentref07_Check.f; rw [e])
  rw [<- hn] at hz
  have hv : kf_ id m u b c z s me o a l L = L.all (rzP (kg_ m u b c z s me o a l)) := by unfold kf_; rw [decide_eq_true hk, <- hn, decide_eq_true hz, Bool.true_and, Bool.true_and]
  rw [hv]
  have hsz := vy_ hk
  have hs := fun W => revetmentref07_Size.calls id m u b c z s me o a l (kg_ m u b c z s me o a l) W rfl
  generalize kg_ m u b c z s me o a l = Z at hs hsz ⊢
  subst hz
  have kb : ((n : Int) == (n : Int)) = true := beq_iff_eq.mpr rfl; have kb2 : ((n : Int) != (n : Int)) = false := bne_eq_false_iff_eq.mpr rfl
  have HK := hid (fun W => hck 0 W hk); have HS := hid hs; have HC := hid hr0; have HN := hid hn; clear hck hk hs hv hr0 hn
  go_enter Try.func87, Try.ntmps87
  go_wp2_with first
    | (apply bh H 1 (tL id m u b c n s me o a l (.slice A0 n c0)) 35; clear H; intro gT W1 H; obtain ⟨-, cT⟩ := n1_ H)
    | (go_at_call 13; refine (HK.out _).mono ?_; rintro e W2 ⟨rfl, hb⟩; clear cT; replace H := pc H hb; clear hb; obtain ⟨-, cT⟩ := n1_ H)
  go_loopw [3] (fun v3 wr => ∃ j : Nat, v3 = .int .i64 j /\ j <= n /\ Hid ((L.take j).all (rzP Z) = true) /\ Hid (Pk w wr [⟨gT, 35, (tL id m u b c n s me o a l (.slice A0 n c0)).toArray⟩] [])) (fun v3 _ => ((n : Int) - intOf v3).toNat)
  case atStart => exact ⟨0, rfl, by omega, hid rfl, H⟩
  case round =>
    clear H cT
    obtain ⟨j, rfl, hj, HA, H⟩ := hrel
    by_cases hlt : j < n
    · have c1 : (j : Int) < (n : Int) := by omega
      obtain ⟨ad, e⟩ := xI_ HC.out (by omega)
      subst e
      have q1 : (0 : Int) <= (j : Int) := by omega
      have e2 : wrap64 ((j : Int) + 1) = ((j + 1 : Nat) : Int) := by unfold wrap64; push_cast; omega
      have HE2 := hid e2; clear e2
      have hx := Geo.rd_get L j (by rw [<- HN.out]; exact hlt)
      have hzn := yK_ HC.out j hlt
      have hiff := Geo.rz_iff Z (jl_ L (j : Int))
      generalize jl_ L (j : Int) = x at hx hzn hiff
      obtain ⟨st, wp, gen⟩ := x
      dsimp only at hzn hiff
      have HX := hid hx; have HZN := hid hzn; clear hx hzn
      obtain ⟨-, cT⟩ := n1_ H
      go_wp2
      clear cT
      refine jN_ (n := 11) (S := fun W => bW W gT (tL id m u b c n s me o a l (.slice (some ad) n c0)) /\ (W.cell? (ad.add (j * 3)) = some (.int .i64 st) /\ W.cell? ⟨(ad.add (j * 3)).block, (ad.add (j * 3)).off + 1, none⟩ = some (.int .i64 wp) /\ W.cell? ⟨(ad.add (j * 3)).block, (ad.add (j * 3)).off + 2, none⟩ = some (.int .i64 gen))) (ds := []) (bq 11 0) (by kernel_rfl) rfl (by kernel_rfl) ⟨H.out.drew.cell 0 rfl, (zone_b HZN.out (H.out.drew).below)⟩ (fun hHeld => ?_)
      refine jw_ vP_ vN_ (fun HT_ HW_ => ?_)
      have zH := H.out.drew
      generalize wr.drew = W21 at zH hHeld ⊢
      replace H := hid zH; clear zH
      apply pu 0 27 (bq 11 1) HT_
      apply tw 1 28 (bq 11 3) HT_ HW_ hHeld
      apply pu 2 29 (bq 11 7) HT_
      apply pu 3 30 (bq 11 15) HT_
      apply tw 4 31 (bq 11 31) HT_ HW_ hHeld
      apply pu 5 32 (bq 11 63) HT_
      apply tw 6 33 (bq 11 127) HT_ HW_ hHeld
      have b0 := hid (Below.refl W21.heap.size W21)
      refine zM_ (σ := Nat) 2 (bq 11 511) (fun y => [(34, .int .i64 Z), (4, .pointer (some ⟨y, 0, none⟩))]) (fun y W => (bW W gT (tL id m u b c n s me o a l (.slice (some ad) n c0)) /\ (W.cell? (ad.add (j * 3)) = some (.int .i64 st) /\ W.cell? ⟨(ad.add (j * 3)).block, (ad.add (j * 3)).off + 1, none⟩ = some (.int .i64 wp) /\ W.cell? ⟨(ad.add (j * 3)).block, (ad.add (j * 3)).off + 2, none⟩ = some (.int .i64 gen))) /\ Below W21.heap.size W21 W /\ W.heap[y]? = some (.cells (oL 0 0 0).toArray 59 (0, 0)) /\ W21.heap.size <= y) ?_ ?_
      rotate_left
      · intro hCont
        refine two_ (i := 7) (j := 8) (Ni := some 34) (Nj := some 4) (bq 11 255) (bq 11 383) rfl rfl rfl rfl (vL_ HT_.out (by kernel_rfl)) (by decide) (by decide) (fun K hK => ?_) (fun K hK => ?_)
        · refine gs Try.func41 #[.agg #[.int .i64 id, .int .i64 m, .int .i64 u, .int .i64 b, .int .i64 c, .int .i64 n, .int .i64 s, .int .i64 me, .int .i64 o, .int .i64 a, .int .i64 l]] ?_
          refine (HS.out _).mono ?_
          rintro e W22 ⟨rfl, hb⟩
          refine ⟨_, rfl, ?_⟩
          replace H := pc H hb
          replace b0 := hid (jc_ b0.out hb)
          clear hb
          refine hK.out _ _ ⟨H.out.cell 0 rfl, (zone_b HZN.out H.out.below)⟩ (fun hHeld => ?_)
          clear hK K
          apply nm 0
          apply on 8 (some 4) (bq 11 511) HT_; intro K hK
          obtain ⟨-, cT⟩ := n1_ H
          apply bhs H 4 (oL 0 0 0) 59
          clear H cT
          intro gV W23 hg hb H
          have GV := hid (Nat.le_trans b0.out.size hg)
          replace b0 := hid (jc_ b0.out hb)
          clear hb hg
          refine hK.out _ _ ⟨H.out.cell 1 rfl, (zone_b HZN.out H.out.below)⟩ (fun hHeld => ?_)
          clear hK K
          apply nm 0
          exact kw_ (by simp only [jS_, Act.put, List.setIfInBounds_toArray, List.set_cons_zero, List.set_cons_succ]) (hCont (gV) _ ⟨hHeld, b0.out, H.out.at_ 0 rfl, GV.out⟩)
        · obtain ⟨-, cT⟩ := n1_ H
          apply bhs H 4 (oL 0 0 0) 59
          clear H cT
          intro gV W22 hg hb H
          have GV := hid (Nat.le_trans b0.out.size hg)
          replace b0 := hid (jc_ b0.out hb)
          clear hb hg
          refine hK.out _ _ ⟨H.out.cell 1 rfl, (zone_b HZN.out H.out.below)⟩ (fun hHeld => ?_)
          clear hK K
          apply nm 0
          apply on 7 (some 34) (bq 11 511) HT_; intro K hK
          refine gs Try.func41 #[.agg #[.int .i64 id, .int .i64 m, .int .i64 u, .int .i64 b, .int .i64 c, .int .i64 n, .int .i64 s, .int .i64 me, .int .i64 o, .int .i64 a, .int .i64 l]] ?_
          refine (HS.out _).mono ?_
          rintro e W23 ⟨rfl, hb⟩
          refine ⟨_, rfl, ?_⟩
          replace H := pc H hb
          replace b0 := hid (jc_ b0.out hb)
          clear hb
          refine hK.out _ _ ⟨H.out.cell 1 rfl, (zone_b HZN.out H.out.below)⟩ (fun hHeld => ?_)
          clear hK K
          apply nm 0
          exact kw_ (by simp only [jS_, Act.put, List.setIfInBounds_toArray, List.set_cons_zero, List.set_cons_succ]) (hCont (gV) _ ⟨hHeld, b0.out, H.out.at_ 0 rfl, GV.out⟩)
      rintro gV W74 ⟨hHeld, hb, hV, hGV⟩
      (try dsimp only at hHeld hV hGV ⊢)
      replace H := hid (H.out.join hb hV hGV)
      clear b0 hb hV hGV
      refine kw_ (a' := ?_) ?_ ?_
      rotate_left
      · simp only [jS_, Act.put, List.setIfInBounds_toArray, List.set_cons_zero, List.set_cons_succ]
        rfl
      apply on 9 none (bq 11 1023) HT_; intro K hK
      obtain ⟨-, cV, cT⟩ := n2_ H
      apply shs H 0 59 4 gV (oL st wp gen)
      clear H cV cT
      intro W75 K_
      have H := (n2_ K_).1; clear K_
      refine hK.out _ _ ⟨H.out.cell 1 rfl, (zone_b HZN.out H.out.below)⟩ (fun hHeld => ?_)
      clear hK K
      apply pu 10 5 (bq 11 2047) HT_
      refine kk_ (jF_ HT_.out (by kernel_rfl)) ?_
      obtain ⟨-, cV, cT⟩ := n2_ H
      by_cases hz : rzP Z ⟨st, wp, gen⟩ = true
      · have q := hiff.mp hz
        obtain ⟨g0, g1, g2, q⟩ := q
        have n0 : ¬ gen < 0 := by omega
        have n1_ : ¬ gen > 1099511627776 := by omega
        have n2_ : ¬ wp < 0 := by omega
        rcases q with ⟨rfl, rfl⟩ | ⟨rfl, q⟩ | ⟨rfl, q, q_⟩ | ⟨rfl, q⟩ <;> (
          go_wp2
          exact ⟨⟨j + 1, rfl, by omega, hid (by rw [List.take_succ_eq_append_getElem (by rw [<- HN.out]; exact hlt), List.all_append, HA.out, <- HX.out]; simpa using hz), hid H.out.tail⟩, by simp only [intOf]; push_cast; omega⟩)
      · have hF : L.all (rzP Z) = false := by
          rw [List.all_eq_false]
          refine ⟨_, List.getElem_mem (by rw [<- HN.out]; exact hlt), ?_⟩
          rw [<- HX.out]; exact hz
        have HF := hid hF; clear hF
        have q := mt hiff.mpr hz
        have h9 : gen < 0 \/ (¬ gen < 0 /\ gen > 1099511627776) \/ (¬ gen < 0 /\ ¬ gen > 1099511627776 /\ wp < 0) \/ (¬ gen < 0 /\ ¬ gen > 1099511627776 /\ ¬ wp < 0 /\ (st = 0 /\ ¬ wp = 0 \/ st = 1 /\ ¬ wp < Z \/ st = 2 /\ ¬ 0 < wp \/ st = 2 /\ 0 < wp /\ ¬ wp < Z \/ st = 3 /\ ¬ wp <= Z \/ (¬ st = 0 /\ ¬ st = 1 /\ ¬ st = 2 /\ ¬ st = 3))) := by omega
        clear q hiff hz
        rcases h9 with p0 | ⟨p0, p1⟩ | ⟨p0, p1, p2⟩ | ⟨p0, p1, p2, ⟨rfl, p3⟩ | ⟨rfl, p3⟩ | ⟨rfl, p3⟩ | ⟨rfl, p3, p4⟩ | ⟨rfl, p3⟩ | ⟨p3, p4, p5, p6⟩⟩ <;> (
          (try have b0_ : (wp == 0) = false := beq_eq_false_iff_ne.mpr p3)
          (try have b1_ : (st == 0) = false := beq_eq_false_iff_ne.mpr p3)
          (try have b2_ : (st == 1) = false := beq_eq_false_iff_ne.mpr p4)
          (try have b3_ : (st == 2) = false := beq_eq_false_iff_ne.mpr p5)
          (try have b4_ : (st == 3) = false := beq_eq_false_iff_ne.mpr p6)
          go_wp2
          go_ret
          exact ⟨by rw [HF.out]; rfl, H.out.below⟩)
    · have c1 : ¬ (j : Int) < (n : Int) := by omega
      obtain rfl : n = j := by omega
      have HA2 := hid (by have h := HA.out; rw [List.take_of_length_le (by rw [<- HN.out]; exact Nat.le_refl _)] at h; exact h)
      obtain ⟨-, cT⟩ := n1_ H
      go_wp2
      go_ret
      exact ⟨by rw [HA2.out]; rfl, H.out.below⟩
theorem rright_any (id m u b c z s me o a l : Int) (A0 : Option Addr) (c0 : Nat) (L : List S59) (w : World) (hr0 : Kd.C k59 w A0 L.length L) (hc0 : L.length <= c0) (hl : L.length <= 1000000) :
    Calls Try.prog 87 #[tabV id m u b c z s me o a l (.slice A0 L.length c0)] w fun e w' => e = .returned (.bool (kf_ id m u b c z s me o a l L)) /\ Below w.heap.size w w' := by
  by_cases hk : jn_ id m u b c z s me o a l = 0
  · by_cases hz : (L.length : Int) = z
    · exact rright_c id m u b c z s me o a l A0 c0 L w hr0 hc0 hl hk hz
    · exact rright_b id m u b c z s me o a l A0 c0 L w hr0 hc0 hl hk hz
  · exact rright_a id m u b c z s me o a l A0 c0 L w hr0 hc0 hl hk
def zB_ (id m u b c z s me o a l : Int) : Bool := decide (jn_ id m u b c z s me o a l = 0) && decide (m <= 5) && decide (u <= 3) && decide (b <= 128) && decide (c <= 32) && decide (z <= 4) && decide (s <= 2) && decide (me <= 4)
theorem small_any (id m u b c z s me o a l : Int) (w : World) : Calls Try.prog 72 #[.agg #[.int .i64 id, .int .i64 m, .int .i64 u, .int .i64 b, .int .i64 c, .int .i64 z, .int .i64 s, .int .i64 me, .int .i64 o, .int .i64 a, .int .i64 l]] w fun e w' => e = .returned (.bool (zB_ id m u b c z s me o a l)) /\ Below w.heap.size w w' := by
  have H := hid (Pk.start w)
  have hck := fun W => revetmentref07_Check.calls id m u b c z s me o a l (jn_ id m u b c z s me o a l) W (by unfold revetmentref07_Check.f; rfl)
  have hB : zB_ id m u b c z s me o a l = zB_ id m u b c z s me o a l := rfl
  unfold zB_ at hB ⊢
  clear hB
  generalize jn_ id m u b c z s me o a l = E at hck ⊢
  have HK := hid hck; clear hck
  have h9 : (¬ (E = 0)) \/ ((E = 0) /\ ¬ (m <= 5)) \/ ((E = 0) /\ (m <= 5) /\ ¬ (u <= 3)) \/ ((E = 0) /\ (m <= 5) /\ (u <= 3) /\ ¬ (b <= 128)) \/ ((E = 0) /\ (m <= 5) /\ (u <= 3) /\ (b <= 128) /\ ¬ (c <= 32)) \/ ((E = 0) /\ (m <= 5) /\ (u <= 3) /\ (b <= 128) /\ (c <= 32) /\ ¬ (z <= 4)) \/ ((E = 0) /\ (m <= 5) /\ (u <= 3) /\ (b <= 128) /\ (c <= 32) /\ (z <= 4) /\ ¬ (s <= 2)) \/ ((E = 0) /\ (m <= 5) /\ (u <= 3) /\ (b <= 128) /\ (c <= 32) /\ (z <= 4) /\ (s <= 2) /\ ¬ (me <= 4)) \/ ((E = 0) /\ (m <= 5) /\ (u <= 3) /\ (b <= 128) /\ (c <= 32) /\ (z <= 4) /\ (s <= 2) /\ (me <= 4)) := by omega
  rcases h9 with p0 | ⟨p0, p1⟩ | ⟨p0, p1, p2⟩ | ⟨p0, p1, p2, p3⟩ | ⟨p0, p1, p2, p3, p4⟩ | ⟨p0, p1, p2, p3, p4, p5⟩ | ⟨p0, p1, p2, p3, p4, p5, p6⟩ | ⟨p0, p1, p2, p3, p4, p5, p6, p7⟩ | ⟨p0, p1, p2, p3, p4, p5, p6, p7⟩ <;> (
    (first | (have kb : (E == 0) = false := beq_eq_false_iff_ne.mpr p0) | (have kb : (E == 0) = true := beq_iff_eq.mpr p0))
    have HP0 := hid p0; clear p0
    go_enter Try.func72, Try.ntmps72
    go_wp2_with first
      | (apply bh H 1 (cL id m u b c z s me o a l) 23; clear H; intro gC W1 H; obtain ⟨-, cC⟩ := n1_ H)
      | (go_at_call 13; refine (HK.out _).mono ?_; rintro e W2 ⟨rfl, hb⟩; clear cC; replace H := pc H hb; clear hb; obtain ⟨-, cC⟩ := n1_ H)
    go_ret
    have q0 := HP0.out
    refine ⟨?_, H.out.below⟩
    first | (simp [*]; done) | (simp [*]; intros; omega))
def qh_ (xs : List S65) : Nat -> Option Int
  | 0 => some 0
  | j + 1 => match qh_ xs j with
    | none => none
    | some n => if 20000 < wrap64 (n + ((jk_ xs (j : Int)).f4.length : Int)) then none else some (wrap64 (n + ((jk_ xs (j : Int)).f4.length : Int)))
theorem muchS_none {xs : List S65} {j : Nat} (h : qh_ xs j = none) : ∀ {k : Nat}, j <= k -> qh_ xs k = none := by
  intro k hk
  induction k with
  | zero => have e : j = 0 := by omega
            subst e; exact h
  | succ k ih =>
    by_cases e : j = k + 1
    · subst e; exact h
    · have := ih (by omega)
      simp only [qh_, this]
def muchB (id m u b c z s me o a l : Int) (xs : List S65) : Bool := (qh_ xs (min xs.length 50)).isNone || (decide (40 < xs.length) || (decide (jn_ id m u b c z s me o a l = 0) && !zB_ id m u b c z s me o a l))
theorem much_run (id m u b c z s me o a l : Int) (A : Option Addr) (k : Nat) (xs : List S65) (w : World) (h : Kd.C k65 w A xs.length xs) (hc : xs.length <= k) : Calls Try.prog 24 #[.agg #[.int .i64 id, .int .i64 m, .int .i64 u, .int .i64 b, .int .i64 c, .int .i64 z, .int .i64 s, .int .i64 me, .int .i64 o, .int .i64 a, .int .i64 l], .slice A xs.length k] w fun e w' => e = .returned (.bool (muchB id m u b c z s me o a l xs)) /\ Below w.heap.size w w' := by
  have H := hid (Pk.start w)
  obtain ⟨n, hn⟩ : ∃ n, n = xs.length := ⟨_, rfl⟩
  have hM : muchB id m u b c z s me o a l xs = ((qh_ xs (min n 50)).isNone || (decide (40 < n) || (decide (jn_ id m u b c z s me o a l = 0) && !zB_ id m u b c z s me o a l))) := by unfold muchB; rw [hn]
  rw [hM]
  rw [<- hn] at h hc ⊢
  have hck := fun W => revetmentref07_Check.calls id m u b c z s me o a l (jn_ id m u b c z s me o a l) W (by unfold revetmentref07_Check.f; rfl)
  have hsm := fun W => small_any id m u b c z s me o a l W
  generalize jn_ id m u b c z s me o a l = E at hck ⊢
  generalize zB_ id m u b c z s me o a l = SB at hsm ⊢
  have HK := hid hck; have HS := hid hsm; have HC := hid h; have HN := hid hn; clear hck hsm h hn hM
  go_enter Try.func24, Try.ntmps24
  go_wp2_with first
    | (apply bh H 2 (cL id m u b c z s me o a l) 23; clear H; intro gC W1 H; obtain ⟨-, cC⟩ := n1_ H)
  go_loopw [5, 6] (fun v5 v6 wr => ∃ (j : Nat) (t : Int), v5 = .int .i64 t /\ v6 = .int .i64 j /\ j <= n /\ j <= 50 /\ Hid (qh_ xs j = some t) /\ Hid (Pk w wr [⟨gC, 23, (cL id m u b c z s me o a l).toArray⟩] [])) (fun v5 v6 _ => ((n : Int) - intOf v6).toNat)
  case atStart => exact ⟨0, 0, rfl, rfl, by omega, by omega, hid rfl, H⟩
  case round =>
    clear H cC
    obtain ⟨j, t, rfl, rfl, hj, hj5, HT, H⟩ := hrel
    by_cases hlt : j < n /\ j < 50
    · obtain ⟨hlt, hl5⟩ := hlt
      have c1 : (j : Int) < (n : Int) := by omega
      have c2 : (j : Int) < 50 := by omega
      have q1 : (0 : Int) <= (j : Int) := by omega
      obtain ⟨ad, A4, c4, e, h0_, h1_, h2_, h3_, h4, h5_, hl4, hC4⟩ := at_T65 (Kd.C_below HC.out H.out.below) (j : Int) (by omega) (by omega)
      rw [Int.toNat_natCast] at h4
      subst e
      clear h0_ h1_ h2_ h3_ h5_ hC4 hl4
      have e2 : wrap64 ((j : Int) + 1) = ((j + 1 : Nat) : Int) := by unfold wrap64; push_cast; omega
      have HE2 := hid e2; clear e2
      have hS : qh_ xs (j + 1) = if 20000 < wrap64 (t + ((jk_ xs (j : Int)).f4.length : Int)) then none else some (wrap64 (t + ((jk_ xs (j : Int)).f4.length : Int))) := by simp only [qh_, HT.out]
      generalize (jk_ xs (j : Int)).f4.length = ln at hS h4
      have hiw := kq_ (t + (ln : Int))
      generalize wrap64 (t + (ln : Int)) = nt at hS hiw
      by_cases hg : 20000 < nt
      obtain ⟨-, cC⟩ := n1_ H
      · rw [if_pos hg] at hS
        have HSN := hid hS; clear hS
        go_wp2
        go_ret
        refine ⟨?_, H.out.below⟩
        rw [muchS_none HSN.out (show j + 1 <= min n 50 by omega)]; rfl
      · rw [if_neg hg] at hS
        have HSN := hid hS; clear hS
        go_wp2
        exact ⟨⟨j + 1, nt, rfl, rfl, by omega, by omega, HSN, H⟩, by simp only [intOf]; push_cast; omega⟩
    · have hmin : j = min n 50 := by omega
      have hM2 : (qh_ xs (min n 50)).isNone = false := by rw [<- hmin, HT.out]; rfl
      have HM2 := hid hM2
      have h2 : ¬ (j : Int) < (n : Int) \/ ((j : Int) < (n : Int) /\ ¬ (j : Int) < 50) := by omega
      clear hlt hmin hM2
      have h3 : (40 < n) \/ (¬ 40 < n /\ ¬ E = 0) \/ (¬ 40 < n /\ E = 0) := by omega
      rcases h2 with p0 | ⟨p0, p1⟩ <;> rcases h3 with r0 | ⟨r0, r1⟩ | ⟨r0, r1⟩ <;> (try (exfalso; omega)) <;> (
        (first | (have r2 : (n : Int) > 40 := by omega) | (have r2 : ¬ (n : Int) > 40 := by omega))
        (try have kb : (E == 0) = false := beq_eq_false_iff_ne.mpr r1)
        (try have kb : (E == 0) = true := beq_iff_eq.mpr r1)
        have HR0 := hid r0; clear r0
        (try (have HR1 := hid r1; clear r1))
        obtain ⟨-, cC⟩ := n1_ H
        go_wp2_with first
          | (go_at_call 13; refine (HK.out _).mono ?_; rintro e W21 ⟨rfl, hb⟩; clear cC; replace H := pc H hb; clear hb; obtain ⟨-, cC⟩ := n1_ H)
          | (go_at_call 72; refine (HS.out _).mono ?_; rintro e W22 ⟨rfl, hb⟩; clear cC; replace H := pc H hb; clear hb; obtain ⟨-, cC⟩ := n1_ H)
        go_ret
        refine ⟨?_, H.out.below⟩
        rw [HM2.out, Bool.false_or]
        have q0 := HR0.out
        (try have q1 := HR1.out)
        first | (simp only [q0, decide_true, decide_false, Bool.true_or, Bool.false_or]; rfl) | (simp only [q0, q1, decide_true, decide_false, Bool.true_or, Bool.false_or, Bool.true_and, Bool.false_and]; rfl) | (simp [*]; done))
theorem much_any (id m u b c z s me o a l : Int) (A : Option Addr) (k : Nat) (xs : List S65) (W : World) (h : Kd.C k65 W A xs.length xs) (hc : xs.length <= k) : ∃ B : Bool, (B = false -> xs.length <= 40) /\ ∀ (W' : World), Below W.heap.size W W' -> Calls Try.prog 24 #[.agg #[.int .i64 id, .int .i64 m, .int .i64 u, .int .i64 b, .int .i64 c, .int .i64 z, .int .i64 s, .int .i64 me, .int .i64 o, .int .i64 a, .int .i64 l], .slice A xs.length k] W' fun e w' => e = .returned (.bool B) /\ Below W'.heap.size W' w' :=
  ⟨muchB id m u b c z s me o a l xs, fun e => by
    unfold muchB at e
    have := (Bool.or_eq_false_iff.1 (Bool.or_eq_false_iff.1 e).2).1
    have := of_decide_eq_false this
    omega, fun W' hb => much_run id m u b c z s me o a l A k xs W' (Kd.C_below h hb) hc⟩
end Go.Proofs.Ytgckcaoncjhgbaa
