/- The walk of loads.Play. -/
import Derived.Test.YtgckcaoncjhgbaaFMe
import Derived.Test.YtgckcaoncjhgbaaFLl
set_option maxHeartbeats 16000000
set_option maxRecDepth 100000
open Go.Lib (hid)
namespace Go.Proofs.Ytgckcaoncjhgbaa
open Go.RowKit Go.Proofs.Ytgckcaoncjhgbaa.PL Go.Proofs.YtgckcaoncjhgbaaW.PrintWords Go.Proofs.YtgckcaoncjhgbaaW.PrintLast
open Go.Proofs.Ytgckcaoncjhgbaa.Geo
open Go.Proofs.Ytgckcaoncjhgbaa.PG (S134 k134 xZ_ vD_ xf_ S143 k143 kt_ xN_)
set_option linter.unusedVariables false
set_option linter.unusedSimpArgs false
attribute [local go_sem] List.getElem?_toArray List.getElem?_cons_succ List.getElem?_cons_zero mL tL cL xL rL oL
def xQ_ : Bool × List (List Nat × List Nat) := (true, [([], []), ([], []), ([1], [1]), ([], []), ([3], [3]), ([4], [4]), ([], []), ([6], [6]), ([5, 7], [5, 7]), ([0, 2, 8], [0, 2, 8]), ([9], [9]), ([], [])])
theorem yM_ : rtab .any (kT_ Try.f50 11) = xQ_ := by kernel_rfl
theorem yB_ : jO_ xQ_.2 [0, 0, 2, 0, 8, 24, 0, 64, 248, 511, 1023, 0] = true := by kernel_rfl
theorem over_one (l : List Value) : ∀ (q : Nat) (v : Value), q < l.length -> over l q [v] = l.set q v := by
 induction l with
 | nil => intro q v h; simp at h
 | cons c l ih =>
  intro q v h
  cases q with
  | zero => simp [over]
  | succ q => simp only [over, List.set_cons_succ]; rw [ih q v (by simpa using h)]
theorem addp {w W : World} {bs : List Blk} {fs : List Fct} (H : Hid (Pk w W bs fs)) (k kt G T : Nat) (L : List S134) (M : Nat) (s_ : S143) (hk : bs[k]? = some ⟨G, 134, (jH_ L).toArray⟩) (ht : bs[kt]? = some ⟨T, 145, #[.slice (some ⟨G, 0, none⟩) M M]⟩) (hL : L.length = M) (h0 : 0 <= s_.f1) (h1 : s_.f1 < M) (hm : M <= 100) (hT : fs.all (fun f => !f.T.contains 134) = true) :
  Calls Try.prog 94 #[.pointer (some ⟨T, 0, none⟩), encS s_] W fun e w' => (∃ v, e = .returned v) /\ Hid (Pk w w' (bs.set k ⟨G, 134, (jH_ (addL L s_)).toArray⟩) fs) := by
 subst hL
 obtain ⟨p0, p1, p2, p3, p4⟩ := s_
 obtain ⟨i, rfl⟩ := Int.eq_ofNat_of_zero_le h0
 have hi : i < L.length := by simpa using h1
 have key : ∀ (o : Obj) (q : Nat) (v : Value) (L2 : List S134), q < (jH_ L).length -> (jH_ L).set q v = jH_ L2 -> Hid (Pk w (((W.alloc o).drew).setCell ⟨G, q, none⟩ v) (bs.set k ⟨G, 134, (jH_ L2).toArray⟩) fs) := by
  intro o q v L2 hq e
  have h2 := (H.out.called (jg_ (Below.refl _ W) o)).drew
  refine hid (h2.put k (i := q) (ys := [v]) hk rfl ?_ ?_ hT)
  · simp only [List.size_toArray, List.length_cons, List.length_nil]; rw [Nat.ble_eq]; omega
  · rw [over_one _ _ _ (by simpa using hq)]; rw [<- e]
 have hl := kz_ L
 cases p0 with
 | true =>
  refine (add_par T G L L.length p2 p3 p4 i W (H.out.at_ kt ht) (H.out.at_ k hk) hi hm).mono ?_
  rintro e w' ⟨he, rfl⟩
  refine ⟨he, key _ _ _ _ (by omega) ?_⟩
  rw [zV_ L _ i hi]; simp [addL]
 | false =>
  refine (add_data T G L L.length p2 p3 p4 i W (H.out.at_ kt ht) (H.out.at_ k hk) hi hm).mono ?_
  rintro e w' ⟨he, rfl⟩
  refine ⟨he, key _ _ _ _ (by omega) ?_⟩
  rw [zW_ L _ i hi]; simp [addL]
theorem lplay_no (id m u b c z s me o a l : Int) (Aa : Option Addr) (ca : Nat) (xs : List S65) (w : World) (hr : Kd.C k65 w Aa xs.length xs) (hc : xs.length <= ca) (hk : ¬ jn_ id m u b c z s me o a l = 0) :
  Calls Try.prog 50 #[.agg #[.int .i64 id, .int .i64 m, .int .i64 u, .int .i64 b, .int .i64 c, .int .i64 z, .int .i64 s, .int .i64 me, .int .i64 o, .int .i64 a, .int .i64 l], .slice Aa xs.length ca] w fun e w' => e = .returned (.slice none 0 0) /\ Below w.heap.size w w' := by
 have H := hid (Pk.start w)
 obtain ⟨n, hn⟩ : ∃ n, n = xs.length := ⟨_, rfl⟩
 have HN := hid hn
 rw [<- hn] at hr hc ⊢
 have HX := hid hr
 have HNM := hid (Kd.C_max hr)
 clear hr hn
 have hst := fun W => start_no id m u b c z s me o a l W hk
 have hnew := fun W => mnew_no id m u b c z s me o a l W hk
 generalize jn_ id m u b c z s me o a l = E at hnew hk
 have kb : (E == 0) = false := beq_eq_false_iff_ne.mpr hk; have kb2 : (E != 0) = true := bne_iff_ne.mpr hk
 have HN2 := hid hnew; have HST := hid hst; clear hnew hst hk
 go_enter Try.func50, Try.ntmps50
 go_wp2_with first
  | (apply bh H 2 (cL id m u b c z s me o a l) 23; clear H; intro gC W1 H; obtain ⟨-, cC⟩ := n1_ H)
  | (go_at_call 93; refine (HST.out _).mono ?_; rintro e W2 ⟨rfl, hb⟩; clear cC; replace H := pc H hb; clear hb; obtain ⟨-, cC⟩ := n1_ H)
  | (go_at_call 22; refine (HN2.out _).mono ?_; rintro e W3 ⟨rfl, hb⟩; clear cC; replace H := pc H hb; clear hb; obtain ⟨-, cC⟩ := n1_ H)
  | (apply bh H 7 (mL 0 0 0 0 0 0 0 0 0 0 0 nil_ nil_ nil_) 53; clear H cC; intro gM W4 H; obtain ⟨-, cM, cC⟩ := n2_ H)
  | (apply sn H 0 53 7 gM (mL 0 0 0 0 0 0 0 0 0 0 0 nil_ nil_ nil_))
 go_ret
 exact ⟨rfl, H.out.below⟩
theorem lplay_yes (id m u b c z s me o a l : Int) (Aa : Option Addr) (ca : Nat) (xs : List S65) (w : World) (hr : Kd.C k65 w Aa xs.length xs) (hc : xs.length <= ca) (hk : jn_ id m u b c z s me o a l = 0) :
  Calls Try.prog 50 #[.agg #[.int .i64 id, .int .i64 m, .int .i64 u, .int .i64 b, .int .i64 c, .int .i64 z, .int .i64 s, .int .i64 me, .int .i64 o, .int .i64 a, .int .i64 l], .slice Aa xs.length ca] w fun e w' => ∃ v0_ : Value, e = .returned v0_ /\ Kd.R k134 134 w' w.heap.size (fun _ => True) v0_ (xs.foldl (qe_ id m u b c z s me o a l) (⟨⟨List.replicate z.toNat z59, List.replicate z.toNat ByteArray.empty, List.replicate z.toNat 0⟩, List.replicate m.toNat ⟨0, 0⟩⟩ : Mdl × List S134)).2 /\ Below w.heap.size w w' := by
 have H := hid (Pk.start w)
 obtain ⟨n, hn⟩ : ∃ n, n = xs.length := ⟨_, rfl⟩
 have HN := hid hn
 rw [<- hn] at hr hc ⊢
 have HX := hid hr
 have HNM := hid (Kd.C_max hr)
 clear hr hn
 have hmb := (good hk).1.m1; have hmb2 := (good hk).1.m2
 have hb_ := kB_ (kM_ hk).1
 have HB1 := hid (show 1 <= b by omega)
 have hmem := fun (x2 q : Int) => vh_ hk x2 q
 have hst := fun W => start_yes id m u b c z s me o a l W hk
 have hnew := fun W => mnew_ok id m u b c z s me o a l W hk
 have HI0 := hid (minv_new id m u b c z s me o a l hk)
 obtain ⟨L0, hL0⟩ : ∃ L, L = (List.replicate m.toNat ⟨0, 0⟩ : List S134) := ⟨_, rfl⟩
 have HL0 := hid hL0
 have hl0 : L0.length = m.toNat := by rw [hL0, List.length_replicate]
 unfold Started at hst
 rw [<- hL0] at hst
 obtain ⟨M, hM⟩ : ∃ M, M = m.toNat := ⟨_, rfl⟩
 rw [<- hM] at hst hl0
 have HM := hid (show (M : Int) = m by omega); have HM2 := hid (show M <= 16 by omega)
 have HMEM := hid hmem; have HST := hid hst; have HNW := hid hnew; have HLL0 := hid hl0; clear hmem hst hnew hb_ hmb hmb2 hk hL0 hl0 hM
 go_enter Try.func50, Try.ntmps50
 go_wp2_with first
  | (apply bh H 2 (cL id m u b c z s me o a l) 23; clear H; intro gC W1 H; obtain ⟨-, cC⟩ := n1_ H)
  | (go_at_call 93; refine (HST.out _).mono ?_; rintro e W2 ⟨gT, gG, rfl, hT_, hG_, hTG_, hgT_, hgG_, hb⟩; clear cC; replace H := hid (H.out.join2 hb hT_ hgT_ hG_ hgG_ hTG_); clear hb hT_ hgT_ hG_ hgG_ hTG_; obtain ⟨-, cT, -, cC⟩ := n3_ H)
  | (go_at_call 22; refine (HNW.out _).mono ?_; rintro e W3 ⟨x_, y_, q_, rfl, hM, hb⟩; clear cT cC; obtain ⟨B01, m01, j01, B02, m02, j02, B03, m03, j03, rfl, rfl, rfl⟩ := MR_shape hM; replace H := hid ((H.out.called hb).row (MrF w.heap.size (.slice B01 m01 j01) (.slice B02 m02 j02) (.slice B03 m03 j03) (⟨List.replicate z.toNat z59, List.replicate z.toNat ByteArray.empty, List.replicate z.toNat 0⟩)) (MR_lower hM H.out.below.size)); clear hM; clear hb; obtain ⟨-, cT, -, cC⟩ := n3_ H)
  | (apply bh H 7 (mL 0 0 0 0 0 0 0 0 0 0 0 nil_ nil_ nil_) 53; clear H cT cC; intro gM W4 H; obtain ⟨-, cM, cT, -, cC⟩ := n4_ H)
  | (apply sh H 0 53 7 gM (mL id m u b c z s me o a l (.slice B01 m01 j01) (.slice B02 m02 j02) (.slice B03 m03 j03)); clear H cM cT cC; intro W5 K_; obtain ⟨H, cM, cT, -, cC⟩ := n4_ K_; clear K_)
 go_loopw [36] (fun v36 wr => ∃ (j : Nat) (D : Mdl) (L : List S134) (B1 : Option Addr) (m1 : Nat) (j1 : Nat) (B2 : Option Addr) (m2 : Nat) (j2 : Nat) (B3 : Option Addr) (m3 : Nat) (j3 : Nat), v36 = .int .i64 j /\ j <= n /\ Hid (zZ_ id m u b c z s me o a l D) /\ Hid ((⟨D, L⟩ : Mdl × List S134) = (xs.take j).foldl (qe_ id m u b c z s me o a l) (⟨⟨List.replicate z.toNat z59, List.replicate z.toNat ByteArray.empty, List.replicate z.toNat 0⟩, List.replicate m.toNat ⟨0, 0⟩⟩ : Mdl × List S134)) /\ Hid (L.length = M) /\ Hid (Pk w wr [⟨gM, 53, (mL id m u b c z s me o a l (.slice B1 m1 j1) (.slice B2 m2 j2) (.slice B3 m3 j3)).toArray⟩, ⟨gT, 145, #[.slice (some ⟨gG, 0, none⟩) M M]⟩, ⟨gG, 134, (jH_ L).toArray⟩, ⟨gC, 23, (cL id m u b c z s me o a l).toArray⟩] [MrF w.heap.size (.slice B1 m1 j1) (.slice B2 m2 j2) (.slice B3 m3 j3) (D)])) (fun v36 _ => ((n : Int) - intOf v36).toNat)
 case atStart => exact ⟨0, _, _, B01, m01, j01, B02, m02, j02, B03, m03, j03, rfl, by omega, HI0, hid (by rw [HL0.out]; rfl), HLL0, H⟩
 case round =>
  clear H cM cT cC
  obtain ⟨j, D, L, B1, m1, j1, B2, m2, j2, B3, m3, j3, rfl, hj, HI, HF, HLL, H⟩ := hrel
  by_cases hlt : j < n
  ·
   have c1 : (j : Int) < (n : Int) := by omega
   obtain ⟨ad, A4, c4, e, hl4, hat⟩ := cmd_at HX.out j hlt
   subst e
   have q1 : (0 : Int) <= (j : Int) := by omega
   have e2 : wrap64 ((j : Int) + 1) = ((j + 1 : Nat) : Int) := by have := HNM.out; unfold wrap64; push_cast; omega
   have hdo : ∀ (W : World) (h : MC W (.slice B1 m1 j1) (.slice B2 m2 j2) (.slice B3 m3 j3) D) (hd : Kd.C (Kd.int .u8) W A4 (jk_ xs j).f4.length (jk_ xs j).f4), Calls Try.prog 26 #[modV id m u b c z s me o a l (.slice B1 m1 j1) (.slice B2 m2 j2) (.slice B3 m3 j3), cmdV (jk_ xs j).f0 (jk_ xs j).f1 (jk_ xs j).f2 (jk_ xs j).f3 (.slice A4 (jk_ xs j).f4.length c4) (jk_ xs j).f5] W (RepP id m u b c z s me o a l (.slice B1 m1 j1) (.slice B2 m2 j2) (.slice B3 m3 j3) D (doM id m u b c z s me o a l D (jk_ xs j)).1 (doM id m u b c z s me o a l D (jk_ xs j)).2.1 (kb_ (doM id m u b c z s me o a l D (jk_ xs j)).2.2.1) (doM id m u b c z s me o a l D (jk_ xs j)).2.2.2 W) := fun W h hd => mdo_any id m u b c z s me o a l (.slice B1 m1 j1) (.slice B2 m2 j2) (.slice B3 m3 j3) D (jk_ xs j).f0 (jk_ xs j).f1 (jk_ xs j).f2 (jk_ xs j).f3 A4 c4 (jk_ xs j).f4 (jk_ xs j).f5 W h HI.out.1 hd hl4
   have hfs := fold_step (qe_ id m u b c z s me o a l) (⟨⟨List.replicate z.toNat z59, List.replicate z.toNat ByteArray.empty, List.replicate z.toNat 0⟩, List.replicate m.toNat ⟨0, 0⟩⟩ : Mdl × List S134) xs j (D, L) HF.out (by have := HN.out; omega)
   unfold qe_ at hfs
   (try dsimp only at hfs)
   have hok := (doM_ok HI.out (jk_ xs j)).1
   generalize doM id m u b c z s me o a l D (jk_ xs j) = r at hdo hok hfs
   obtain ⟨N, E, dt, zz⟩ := r
   dsimp only at hdo hok hfs
   obtain ⟨lx, hlx⟩ : ∃ q, q = (jk_ xs j).f4.length := ⟨_, rfl⟩
   have hlm : lx <= 9223372036854775807 := by rw [hlx]; exact (hat (Below.refl _ _)).1.2.1
   rw [<- hlx] at hdo hfs
   have hat2 := fun (W : World) (hb : Below w.heap.size w W) => hat hb
   rw [<- hlx] at hat2
   have HIN := hid hok; have HD := hid hdo; have HAT := hid hat2; have HFS := hid hfs; have HLM := hid hlm; clear hdo hok hat hat2 hlx hl4 hfs hlm
   by_cases he : E = 0 /\ (jk_ xs j).f0 = 0
   ·
    have kb : (E == 0) = true := beq_iff_eq.mpr he.1; have kb2 : ((jk_ xs j).f0 == 0) = true := beq_iff_eq.mpr he.2; have kb3 : (E != 0) = false := bne_eq_false_iff_eq.mpr he.1; have kb4 : ((jk_ xs j).f0 != 0) = false := bne_eq_false_iff_eq.mpr he.2
    have hfs2 := HFS.out; rw [if_pos he] at hfs2
    obtain ⟨q, hq⟩ : ∃ q, q = (lx : Int) / b := ⟨_, rfl⟩
    have hlm := HLM.out
    have htd : Int.tdiv (lx : Int) b = q := by rw [hq]; exact Int.tdiv_eq_ediv_of_nonneg (by omega)
    have q2 : 0 <= q := by rw [hq]; exact Int.ediv_nonneg (by omega) (by have := HB1.out; omega)
    have q3 : q <= (lx : Int) := by rw [hq]; exact Int.ediv_le_self _ (by omega)
    have hwq : IntKind.i64.wrap q = q := by rw [kq_]; unfold wrap64; omega
    have hbz : (b = 0) = False := eq_false (by have := HB1.out; omega)
    clear hlm q2 q3
    rw [<- hq] at hfs2
    obtain ⟨ss, hss⟩ : ∃ ss, ss = kP_ id m u b c z s me o a l (jk_ xs j).f2 q := ⟨_, rfl⟩
    have hps : PG.plan_Steps.f id m u b c z s me o a l (jk_ xs j).f2 q = some ss := by unfold PG.plan_Steps.f; rw [hss]
    have hms := HMEM.out (jk_ xs j).f2 q
    rw [<- hss] at hfs2 hms
    obtain ⟨ns, hns⟩ : ∃ k, k = ss.length := ⟨_, rfl⟩
    have HNS := hid hns; have HPS := hid hps; have HMS := hid hms; have HF2 := hid hfs2; clear hns hps hms hfs2 HFS HF hq hss he
    obtain ⟨-, cM, cT, -, cC⟩ := n4_ H
    have a0_ := (HAT.out _ H.out.below).2.1
    have a1_ := (HAT.out _ H.out.below).2.2.1
    have a2_ := (HAT.out _ H.out.below).2.2.2.1
    have a3_ := (HAT.out _ H.out.below).2.2.2.2.1
    have a4_ := (HAT.out _ H.out.below).2.2.2.2.2.1
    have a5_ := (HAT.out _ H.out.below).2.2.2.2.2.2
    go_wp2_with first
     | (apply bh H 11 (xL 0 0 0 0 nil_ false) 65; clear H cM cT cC a0_ a1_ a2_ a3_ a4_ a5_; intro gX W61 H; obtain ⟨-, cX, cM, cT, -, cC⟩ := n5_ H; have a0_ := (HAT.out _ H.out.below).2.1; have a1_ := (HAT.out _ H.out.below).2.2.1; have a2_ := (HAT.out _ H.out.below).2.2.2.1; have a3_ := (HAT.out _ H.out.below).2.2.2.2.1; have a4_ := (HAT.out _ H.out.below).2.2.2.2.2.1; have a5_ := (HAT.out _ H.out.below).2.2.2.2.2.2)
     | (apply sh H 0 65 11 gX (xL ((jk_ xs j).f0) ((jk_ xs j).f1) ((jk_ xs j).f2) ((jk_ xs j).f3) (.slice A4 lx c4) ((jk_ xs j).f5)); clear H cX cM cT cC a0_ a1_ a2_ a3_ a4_ a5_; intro W62 K_; obtain ⟨H, cX, cM, cT, -, cC⟩ := n5_ K_; clear K_; have a0_ := (HAT.out _ H.out.below).2.1; have a1_ := (HAT.out _ H.out.below).2.2.1; have a2_ := (HAT.out _ H.out.below).2.2.2.1; have a3_ := (HAT.out _ H.out.below).2.2.2.2.1; have a4_ := (HAT.out _ H.out.below).2.2.2.2.2.1; have a5_ := (HAT.out _ H.out.below).2.2.2.2.2.2)
     | (go_at_call 26; refine (HD.out _ (MC_R (H.out.fact 0 rfl)) (HAT.out _ H.out.below).1).mono ?_; rintro e W63 hP; obtain ⟨B51, m51, j51, B52, m52, j52, B53, m53, j53, B54, m54, j54, rfl, hM, hB, hb⟩ := vC_ hP; clear hP; clear cX cM cT cC a0_ a1_ a2_ a3_ a4_ a5_; have hb0_ := H.out.below.size; replace H := hid ((H.out.called hb).row (MrF w.heap.size (.slice B51 m51 j51) (.slice B52 m52 j52) (.slice B53 m53 j53) (N)) (MD_R hM ((H.out.called hb).fact 0 rfl) H.out.below.size)); replace H := hid ((H.out).row (BytF (.slice B54 m54 j54) (kb_ dt)) (hB)); clear hb0_; clear hM hB; clear hb; obtain ⟨-, cX, cM, cT, -, cC⟩ := n5_ H; have a0_ := (HAT.out _ H.out.below).2.1; have a1_ := (HAT.out _ H.out.below).2.2.1; have a2_ := (HAT.out _ H.out.below).2.2.2.1; have a3_ := (HAT.out _ H.out.below).2.2.2.2.1; have a4_ := (HAT.out _ H.out.below).2.2.2.2.2.1; have a5_ := (HAT.out _ H.out.below).2.2.2.2.2.2)
     | (apply bh H 12 (mL 0 0 0 0 0 0 0 0 0 0 0 nil_ nil_ nil_) 53; clear H cX cM cT cC a0_ a1_ a2_ a3_ a4_ a5_; intro gN W64 H; obtain ⟨-, cN, cX, cM, cT, -, cC⟩ := n6_ H; have a0_ := (HAT.out _ H.out.below).2.1; have a1_ := (HAT.out _ H.out.below).2.2.1; have a2_ := (HAT.out _ H.out.below).2.2.2.1; have a3_ := (HAT.out _ H.out.below).2.2.2.2.1; have a4_ := (HAT.out _ H.out.below).2.2.2.2.2.1; have a5_ := (HAT.out _ H.out.below).2.2.2.2.2.2)
     | (apply bh H 13 (rL 0 nil_ 0 0 0) 61; clear H cN cX cM cT cC a0_ a1_ a2_ a3_ a4_ a5_; intro gR W65 H; obtain ⟨-, cR, cN, cX, cM, cT, -, cC⟩ := n7_ H; have a0_ := (HAT.out _ H.out.below).2.1; have a1_ := (HAT.out _ H.out.below).2.2.1; have a2_ := (HAT.out _ H.out.below).2.2.2.1; have a3_ := (HAT.out _ H.out.below).2.2.2.2.1; have a4_ := (HAT.out _ H.out.below).2.2.2.2.2.1; have a5_ := (HAT.out _ H.out.below).2.2.2.2.2.2)
     | (apply sh H 1 53 12 gN (mL id m u b c z s me o a l (.slice B51 m51 j51) (.slice B52 m52 j52) (.slice B53 m53 j53)); clear H cR cN cX cM cT cC a0_ a1_ a2_ a3_ a4_ a5_; intro W66 K_; obtain ⟨H, cR, cN, cX, cM, cT, -, cC⟩ := n7_ K_; clear K_; have a0_ := (HAT.out _ H.out.below).2.1; have a1_ := (HAT.out _ H.out.below).2.2.1; have a2_ := (HAT.out _ H.out.below).2.2.2.1; have a3_ := (HAT.out _ H.out.below).2.2.2.2.1; have a4_ := (HAT.out _ H.out.below).2.2.2.2.2.1; have a5_ := (HAT.out _ H.out.below).2.2.2.2.2.2)
     | (apply sh H 0 61 13 gR (rL E (.slice B54 m54 j54) zz.f0 zz.f1 zz.f2); clear H cR cN cX cM cT cC a0_ a1_ a2_ a3_ a4_ a5_; intro W67 K_; obtain ⟨H, cR, cN, cX, cM, cT, -, cC⟩ := n7_ K_; clear K_; have a0_ := (HAT.out _ H.out.below).2.1; have a1_ := (HAT.out _ H.out.below).2.2.1; have a2_ := (HAT.out _ H.out.below).2.2.2.1; have a3_ := (HAT.out _ H.out.below).2.2.2.2.1; have a4_ := (HAT.out _ H.out.below).2.2.2.2.2.1; have a5_ := (HAT.out _ H.out.below).2.2.2.2.2.2)
    clear cR cN cX cM cT cC a0_ a1_ a2_ a3_ a4_ a5_
    obtain ⟨-, cR, cN, cX, cM, cT, -, cC⟩ := n7_ H
    go_wp2
    clear cR cN cX cM cT cC
    refine jN_ (n := 12) (S := fun W => bW W gC (cL id m u b c z s me o a l) /\ bW W gX (xL ((jk_ xs j).f0) ((jk_ xs j).f1) ((jk_ xs j).f2) ((jk_ xs j).f3) (.slice A4 lx c4) ((jk_ xs j).f5))) (ds := []) (bq 12 0) (by kernel_rfl) rfl (by kernel_rfl) ⟨H.out.drew.cell 6 rfl, H.out.drew.cell 2 rfl⟩ (fun hHeld => ?_)
    refine jw_ yM_ yB_ (fun HT_ HW_ => ?_)
    have zH := H.out.drew
    generalize W67.drew = W68 at zH hHeld ⊢
    replace H := hid zH; clear zH
    apply tw 0 54 (bq 12 1) HT_ HW_ hHeld
    apply pu 1 55 (bq 12 3) HT_
    apply tw 2 56 (bq 12 7) HT_ HW_ hHeld
    apply pu 3 57 (bq 12 15) HT_
    apply tw 4 58 (bq 12 31) HT_ HW_ hHeld
    apply pu 5 59 (bq 12 63) HT_
    apply pu 6 60 (bq 12 127) HT_
    apply tw 7 61 (bq 12 255) HT_ HW_ hHeld
    apply pu 8 62 (bq 12 511) HT_
    apply pu 11 65 (bq 12 2559) HT_
    apply on 9 (some 63) (bq 12 3071) HT_; intro K hK
    refine gs Try.func95 #[.agg #[.int .i64 id, .int .i64 m, .int .i64 u, .int .i64 b, .int .i64 c, .int .i64 z, .int .i64 s, .int .i64 me, .int .i64 o, .int .i64 a, .int .i64 l], .int .i64 (jk_ xs j).f2, .int .i64 q] ?_
    refine (PG.plan_Steps.calls id m u b c z s me o a l (jk_ xs j).f2 q ss _ HPS.out).mono ?_
    rintro e W69 ⟨v0_, rfl, hR, hb⟩
    refine ⟨_, rfl, ?_⟩
    obtain ⟨As, ks, rfl⟩ := Kd.R_slice hR
    rw [<- HNS.out] at hR ⊢
    replace H := pr H hb hR
    clear hR
    clear hb
    refine hK.out _ _ ⟨H.out.cell 6 rfl, H.out.cell 2 rfl⟩ (fun hHeld => ?_)
    clear hK K
    apply nm 0
    apply pu 10 64 (bq 12 4095) HT_
    refine kk_ (jF_ HT_.out (by kernel_rfl)) ?_
    obtain ⟨-, cR, cN, cX, cM, cT, -, cC⟩ := n7_ H
    go_wp2
    go_loopw [65] (fun v65 wr => ∃ i : Nat, v65 = .int .i64 i /\ i <= ns /\ Hid (Pk w wr [⟨gR, 61, (rL E (.slice B54 m54 j54) zz.f0 zz.f1 zz.f2).toArray⟩, ⟨gN, 53, (mL id m u b c z s me o a l (.slice B51 m51 j51) (.slice B52 m52 j52) (.slice B53 m53 j53)).toArray⟩, ⟨gX, 65, (xL ((jk_ xs j).f0) ((jk_ xs j).f1) ((jk_ xs j).f2) ((jk_ xs j).f3) (.slice A4 lx c4) ((jk_ xs j).f5)).toArray⟩, ⟨gM, 53, (mL id m u b c z s me o a l (.slice B1 m1 j1) (.slice B2 m2 j2) (.slice B3 m3 j3)).toArray⟩, ⟨gT, 145, #[.slice (some ⟨gG, 0, none⟩) M M]⟩, ⟨gG, 134, (jH_ ((ss.take i).foldl addL L)).toArray⟩, ⟨gC, 23, (cL id m u b c z s me o a l).toArray⟩] [RowF k143 143 w.heap.size (.slice As ns ks) ss, BytF (.slice B54 m54 j54) (kb_ dt), MrF w.heap.size (.slice B51 m51 j51) (.slice B52 m52 j52) (.slice B53 m53 j53) (N), MrF w.heap.size (.slice B1 m1 j1) (.slice B2 m2 j2) (.slice B3 m3 j3) (D)])) (fun v65 _ => ((ns : Int) - intOf v65).toNat)
    case atStart => exact ⟨0, rfl, by omega, H⟩
    case round =>
     clear H cR cN cX cM cT cC
     obtain ⟨i, rfl, hi, H⟩ := hrel
     have HLS := hid (show ns <= 9223372036854775807 by rw [HNS.out]; exact Kd.C_max (Kd.R_reads' (H.out.fact 0 rfl)).2.2)
     have hll : ((ss.take i).foldl addL L).length = M := by rw [vI_]; exact HLL.out
     have HLI := hid hll; clear hll
     by_cases hli : i < ns
     ·
      have c2 : (i : Int) < (ns : Int) := by omega
      have e3 : wrap64 ((i : Int) + 1) = ((i + 1 : Nat) : Int) := by unfold wrap64; push_cast; have := HLS.out; omega
      have q4 : (0 : Int) <= (i : Int) := by omega
      obtain ⟨sd, es, s0_, s1_, s2_, s3_, s4_⟩ := xN_ (Kd.R_reads' (H.out.fact 0 rfl)).2.2 (i : Int) (by omega) (by have := HNS.out; omega)
      cases es
      simp only [Int.toNat_natCast] at s0_ s1_ s2_ s3_ s4_
      have HSM := hid (HMS.out (kt_ ss (i : Int)) (by
       unfold kt_
       rw [Int.toNat_natCast, List.getD_eq_getElem?_getD, List.getElem?_eq_getElem (by have := HNS.out; omega)]
       exact List.getElem_mem _))
      have HSK := hid (show ss.take (i + 1) = ss.take i ++ [kt_ ss (i : Int)] by
       rw [List.take_succ_eq_append_getElem (by have := HNS.out; omega)]
       unfold kt_
       rw [Int.toNat_natCast, List.getD_eq_getElem?_getD, List.getElem?_eq_getElem (by have := HNS.out; omega)]; rfl)
      generalize kt_ ss (i : Int) = sx at s0_ s1_ s2_ s3_ s4_ HSM HSK
      obtain ⟨-, cR, cN, cX, cM, cT, -, cC⟩ := n7_ H
      go_wp2_with first
       | (apply bx 15 #[.bool false, .int .i64 0, .int .i64 0, .int .i64 0, .int .i64 0] 143; clear cR cN cX cM cT cC; intro gY hgY W161 hxY hbY; have fY := jh_ hxY; have cY := je_ hxY)
       | (apply sv 143 15 gY 0 [.bool sx.f0, .int .i64 sx.f1, .int .i64 sx.f2, .int .i64 sx.f3, .int .i64 sx.f4]; intro W162 hwY; have hb := st_B hwY hbY hgY; have hx_ := st_put (cs' := #[.bool sx.f0, .int .i64 sx.f1, .int .i64 sx.f2, .int .i64 sx.f3, .int .i64 sx.f4]) hwY hxY rfl rfl; replace H := pg H hx_ hb hgY; clear hwY hbY hxY fY cY hb hx_ hgY; obtain ⟨-, cY, cR, cN, cX, cM, cT, -, cC⟩ := n8_ H)
      clear cY cR cN cX cM cT cC
      refine (addp H 6 5 gG gT ((ss.take i).foldl addL L) M sx rfl rfl HLI.out HSM.out.1 (by have := HSM.out.2; have := HM.out; omega) (by have := HM2.out; omega) rfl).mono ?_
      rintro e W199 ⟨⟨ve_, rfl⟩, K_⟩
      clear H s0_ s1_ s2_ s3_ s4_
      obtain ⟨H, cY, cR, cN, cX, cM, cT, -, cC⟩ := n8_ K_
      clear K_
      go_wp2
      exact ⟨⟨i + 1, (congrArg (Value.int .i64) e3), by omega, hid (by rw [HSK.out, List.foldl_append]; exact H.out.tail)⟩, by rw [e3]; simp only [intOf]; push_cast; omega⟩
     ·
      have c2 : ¬ (i : Int) < (ns : Int) := by omega
      have et : ss.take i = ss := List.take_of_length_le (by have := HNS.out; omega)
      rw [et] at H HLI
      clear et
      obtain ⟨-, cR, cN, cX, cM, cT, -, cC⟩ := n7_ H
      go_wp2_with first
       | (apply sh H 3 53 7 gM (mL id m u b c z s me o a l (.slice B51 m51 j51) (.slice B52 m52 j52) (.slice B53 m53 j53)); clear H cR cN cX cM cT cC; intro W161 K_; obtain ⟨H, cR, cN, cX, cM, cT, -, cC⟩ := n7_ K_; clear K_)
      have H2 := (H.out.refs (fs' := [MrF w.heap.size (.slice B51 m51 j51) (.slice B52 m52 j52) (.slice B53 m53 j53) (N)]) (by intro f hf; rcases List.mem_cons.1 hf with rfl | hf; exact H.out.fact 2 rfl; cases hf)).tail.tail.tail
      exact ⟨⟨j + 1, N, ss.foldl addL L, B51, m51, j51, B52, m52, j52, B53, m53, j53, (congrArg (Value.int .i64) e2), by omega, HIN, HF2, HLI, hid H2⟩, by rw [e2]; simp only [intOf]; push_cast; omega⟩
   ·
    have hfs2 := HFS.out; rw [if_neg he] at hfs2
    have HF2 := hid hfs2; clear hfs2 HFS HF
    rcases (show ¬ E = 0 \/ (E = 0 /\ ¬ (jk_ xs j).f0 = 0) by omega) with k0 | ⟨k0, k1⟩ <;> (
     (try have kb : (E == 0) = false := beq_eq_false_iff_ne.mpr k0)
     (try have kb3 : (E != 0) = true := bne_iff_ne.mpr k0)
     (try have kb : (E == 0) = true := beq_iff_eq.mpr k0)
     (try have kb3 : (E != 0) = false := bne_eq_false_iff_eq.mpr k0)
     (try have kb2 : ((jk_ xs j).f0 == 0) = false := beq_eq_false_iff_ne.mpr k1)
     (try have kb4 : ((jk_ xs j).f0 != 0) = true := bne_iff_ne.mpr k1)
     (try clear k1)
     clear k0 he
     obtain ⟨-, cM, cT, -, cC⟩ := n4_ H
     have a0_ := (HAT.out _ H.out.below).2.1
     have a1_ := (HAT.out _ H.out.below).2.2.1
     have a2_ := (HAT.out _ H.out.below).2.2.2.1
     have a3_ := (HAT.out _ H.out.below).2.2.2.2.1
     have a4_ := (HAT.out _ H.out.below).2.2.2.2.2.1
     have a5_ := (HAT.out _ H.out.below).2.2.2.2.2.2
     go_wp2_with first
      | (apply bh H 11 (xL 0 0 0 0 nil_ false) 65; clear H cM cT cC a0_ a1_ a2_ a3_ a4_ a5_; intro gX W61 H; obtain ⟨-, cX, cM, cT, -, cC⟩ := n5_ H; have a0_ := (HAT.out _ H.out.below).2.1; have a1_ := (HAT.out _ H.out.below).2.2.1; have a2_ := (HAT.out _ H.out.below).2.2.2.1; have a3_ := (HAT.out _ H.out.below).2.2.2.2.1; have a4_ := (HAT.out _ H.out.below).2.2.2.2.2.1; have a5_ := (HAT.out _ H.out.below).2.2.2.2.2.2)
      | (apply sh H 0 65 11 gX (xL ((jk_ xs j).f0) ((jk_ xs j).f1) ((jk_ xs j).f2) ((jk_ xs j).f3) (.slice A4 lx c4) ((jk_ xs j).f5)); clear H cX cM cT cC a0_ a1_ a2_ a3_ a4_ a5_; intro W62 K_; obtain ⟨H, cX, cM, cT, -, cC⟩ := n5_ K_; clear K_; have a0_ := (HAT.out _ H.out.below).2.1; have a1_ := (HAT.out _ H.out.below).2.2.1; have a2_ := (HAT.out _ H.out.below).2.2.2.1; have a3_ := (HAT.out _ H.out.below).2.2.2.2.1; have a4_ := (HAT.out _ H.out.below).2.2.2.2.2.1; have a5_ := (HAT.out _ H.out.below).2.2.2.2.2.2)
      | (go_at_call 26; refine (HD.out _ (MC_R (H.out.fact 0 rfl)) (HAT.out _ H.out.below).1).mono ?_; rintro e W63 hP; obtain ⟨B51, m51, j51, B52, m52, j52, B53, m53, j53, B54, m54, j54, rfl, hM, hB, hb⟩ := vC_ hP; clear hP; clear cX cM cT cC a0_ a1_ a2_ a3_ a4_ a5_; have hb0_ := H.out.below.size; replace H := hid ((H.out.called hb).row (MrF w.heap.size (.slice B51 m51 j51) (.slice B52 m52 j52) (.slice B53 m53 j53) (N)) (MD_R hM ((H.out.called hb).fact 0 rfl) H.out.below.size)); replace H := hid ((H.out).row (BytF (.slice B54 m54 j54) (kb_ dt)) (hB)); clear hb0_; clear hM hB; clear hb; obtain ⟨-, cX, cM, cT, -, cC⟩ := n5_ H; have a0_ := (HAT.out _ H.out.below).2.1; have a1_ := (HAT.out _ H.out.below).2.2.1; have a2_ := (HAT.out _ H.out.below).2.2.2.1; have a3_ := (HAT.out _ H.out.below).2.2.2.2.1; have a4_ := (HAT.out _ H.out.below).2.2.2.2.2.1; have a5_ := (HAT.out _ H.out.below).2.2.2.2.2.2)
      | (apply bh H 12 (mL 0 0 0 0 0 0 0 0 0 0 0 nil_ nil_ nil_) 53; clear H cX cM cT cC a0_ a1_ a2_ a3_ a4_ a5_; intro gN W64 H; obtain ⟨-, cN, cX, cM, cT, -, cC⟩ := n6_ H; have a0_ := (HAT.out _ H.out.below).2.1; have a1_ := (HAT.out _ H.out.below).2.2.1; have a2_ := (HAT.out _ H.out.below).2.2.2.1; have a3_ := (HAT.out _ H.out.below).2.2.2.2.1; have a4_ := (HAT.out _ H.out.below).2.2.2.2.2.1; have a5_ := (HAT.out _ H.out.below).2.2.2.2.2.2)
      | (apply bh H 13 (rL 0 nil_ 0 0 0) 61; clear H cN cX cM cT cC a0_ a1_ a2_ a3_ a4_ a5_; intro gR W65 H; obtain ⟨-, cR, cN, cX, cM, cT, -, cC⟩ := n7_ H; have a0_ := (HAT.out _ H.out.below).2.1; have a1_ := (HAT.out _ H.out.below).2.2.1; have a2_ := (HAT.out _ H.out.below).2.2.2.1; have a3_ := (HAT.out _ H.out.below).2.2.2.2.1; have a4_ := (HAT.out _ H.out.below).2.2.2.2.2.1; have a5_ := (HAT.out _ H.out.below).2.2.2.2.2.2)
      | (apply sh H 1 53 12 gN (mL id m u b c z s me o a l (.slice B51 m51 j51) (.slice B52 m52 j52) (.slice B53 m53 j53)); clear H cR cN cX cM cT cC a0_ a1_ a2_ a3_ a4_ a5_; intro W66 K_; obtain ⟨H, cR, cN, cX, cM, cT, -, cC⟩ := n7_ K_; clear K_; have a0_ := (HAT.out _ H.out.below).2.1; have a1_ := (HAT.out _ H.out.below).2.2.1; have a2_ := (HAT.out _ H.out.below).2.2.2.1; have a3_ := (HAT.out _ H.out.below).2.2.2.2.1; have a4_ := (HAT.out _ H.out.below).2.2.2.2.2.1; have a5_ := (HAT.out _ H.out.below).2.2.2.2.2.2)
      | (apply sh H 0 61 13 gR (rL E (.slice B54 m54 j54) zz.f0 zz.f1 zz.f2); clear H cR cN cX cM cT cC a0_ a1_ a2_ a3_ a4_ a5_; intro W67 K_; obtain ⟨H, cR, cN, cX, cM, cT, -, cC⟩ := n7_ K_; clear K_; have a0_ := (HAT.out _ H.out.below).2.1; have a1_ := (HAT.out _ H.out.below).2.2.1; have a2_ := (HAT.out _ H.out.below).2.2.2.1; have a3_ := (HAT.out _ H.out.below).2.2.2.2.1; have a4_ := (HAT.out _ H.out.below).2.2.2.2.2.1; have a5_ := (HAT.out _ H.out.below).2.2.2.2.2.2)
      | (apply sh H 3 53 7 gM (mL id m u b c z s me o a l (.slice B51 m51 j51) (.slice B52 m52 j52) (.slice B53 m53 j53)); clear H cR cN cX cM cT cC a0_ a1_ a2_ a3_ a4_ a5_; intro W68 K_; obtain ⟨H, cR, cN, cX, cM, cT, -, cC⟩ := n7_ K_; clear K_; have a0_ := (HAT.out _ H.out.below).2.1; have a1_ := (HAT.out _ H.out.below).2.2.1; have a2_ := (HAT.out _ H.out.below).2.2.2.1; have a3_ := (HAT.out _ H.out.below).2.2.2.2.1; have a4_ := (HAT.out _ H.out.below).2.2.2.2.2.1; have a5_ := (HAT.out _ H.out.below).2.2.2.2.2.2)
     have H2 := (H.out.refs (fs' := [MrF w.heap.size (.slice B51 m51 j51) (.slice B52 m52 j52) (.slice B53 m53 j53) (N)]) (by intro f hf; rcases List.mem_cons.1 hf with rfl | hf; exact H.out.fact 1 rfl; cases hf)).tail.tail.tail
     exact ⟨⟨j + 1, N, L, B51, m51, j51, B52, m52, j52, B53, m53, j53, (congrArg (Value.int .i64) e2), by omega, HIN, HF2, HLL, hid H2⟩, by rw [e2]; simp only [intOf]; push_cast; omega⟩)
  ·
   have c1 : ¬ (j : Int) < (n : Int) := by omega
   obtain ⟨-, cM, cT, -, cC⟩ := n4_ H
   go_wp2
   go_ret
   have hen : xs.take j = xs := List.take_of_length_le (by have := HN.out; omega)
   have hfe := HF.out
   rw [hen] at hfe
   have hrw := row_R (base := w.heap.size) L (H.out.at_ 2 rfl) (H.out.le 2 rfl) HLL.out.symm (by have := HM2.out; unfold maxLen; omega)
   rw [HLL.out] at hrw
   exact ⟨_, rfl, by rw [<- hfe]; exact hrw, H.out.below⟩
end Go.Proofs.Ytgckcaoncjhgbaa
