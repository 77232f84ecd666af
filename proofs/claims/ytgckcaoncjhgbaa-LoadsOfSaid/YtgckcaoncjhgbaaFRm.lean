/- revetmentref17: Right's contract, may, Count. -/
/- revetmentref17.With. -/
/- revetmentref17: Finish, Close, Reset. -/
import Derived.Test.YtgckcaoncjhgbaaFMd
set_option maxHeartbeats 4000000
set_option maxRecDepth 100000
open Go.Lib (hid)
namespace Go.Proofs.Ytgckcaoncjhgbaa
open Go.RowKit Go.Proofs.Ytgckcaoncjhgbaa.PL Go.Proofs.YtgckcaoncjhgbaaW.PrintWords Go.Proofs.YtgckcaoncjhgbaaW.PrintLast
set_option linter.unusedVariables false
set_option linter.unusedSimpArgs false
abbrev jI_ (id m u b c z s me o a l : Int) (v : Value) : Obj := .cells #[.int .i64 id, .int .i64 m, .int .i64 u, .int .i64 b, .int .i64 c, .int .i64 z, .int .i64 s, .int .i64 me, .int .i64 o, .int .i64 a, .int .i64 l, v] 35
theorem yT_ (id m u b c z s me o a l : Int) (A0 : Option Addr) (c0 : Nat) (L : List S59) (i : Int) (w : World) (hr0 : Kd.C k59 w A0 L.length L) (hc0 : L.length <= c0) (hl : L.length <= 1000000) :
  Calls Try.prog 105 #[tabV id m u b c z s me o a l (.slice A0 L.length c0), .int .i64 i] w fun e w' => e = .returned (.int .i64 (atZ id m u b c z s me o a l L i).2) /\ Below w.heap.size w w' := by
 obtain ⟨n, hn⟩ : ∃ n, n = L.length := ⟨_, rfl⟩
 obtain ⟨V, hV⟩ : ∃ V, V = (atZ id m u b c z s me o a l L i).2 := ⟨_, rfl⟩
 rw [<- hV]; unfold atZ at hV
 have hk := fun W h => rright_any id m u b c z s me o a l A0 c0 L W h hc0 hl
 generalize kf_ id m u b c z s me o a l L = R at hk hV
 rw [<- hn] at hk hr0 hc0 hV ⊢
 have HR := hid hr0; have HK := hid hk; have HV := hid hV
 clear hr0 hk hV hn
 have H := al1 w (jI_ id m u b c z s me o a l (.slice A0 n c0))
 have H0 := hid H.1; have HB0 := hid H.2; clear H
 obtain ⟨t0, t1, t2, t3, t4, t5, t6, t7, t8, t9, t10, t11⟩ := cz12 H0.out
 cases R
 ·
  have hv : V = 1 := HV.out
  subst hv
  go_enter Try.func105, Try.ntmps105
  go_wp2_with first
   | (go_at_call 87; refine (HK.out _ (Kd.C_below HR.out HB0.out)).mono ?_; rintro e w1 ⟨rfl, hb1⟩; have HB1 := hid (jc_ HB0.out hb1); have K1 := hid (jb_ H0.out hb1); obtain ⟨y0, y1, y2, y3, y4, y5, y6, y7, y8, y9, y10, y11⟩ := cz12 K1.out; clear hb1)
  go_ret
  exact ⟨rfl, HB1.out⟩
 ·
  by_cases i0 : i < 0
  ·
   have hv : V = 2 := by have t := HV.out; rw [if_pos rfl, if_pos i0] at t; exact t
   subst hv
   go_enter Try.func105, Try.ntmps105
   go_wp2_with first
    | (go_at_call 87; refine (HK.out _ (Kd.C_below HR.out HB0.out)).mono ?_; rintro e w1 ⟨rfl, hb1⟩; have HB1 := hid (jc_ HB0.out hb1); have K1 := hid (jb_ H0.out hb1); obtain ⟨y0, y1, y2, y3, y4, y5, y6, y7, y8, y9, y10, y11⟩ := cz12 K1.out; clear hb1)
   go_ret
   exact ⟨rfl, HB1.out⟩
  ·
   by_cases i1 : (n : Int) <= i
   ·
    have hv : V = 2 := by have t := HV.out; rw [if_pos rfl, if_neg i0, if_pos i1] at t; exact t
    subst hv
    go_enter Try.func105, Try.ntmps105
    go_wp2_with first
     | (go_at_call 87; refine (HK.out _ (Kd.C_below HR.out HB0.out)).mono ?_; rintro e w1 ⟨rfl, hb1⟩; have HB1 := hid (jc_ HB0.out hb1); have K1 := hid (jb_ H0.out hb1); obtain ⟨y0, y1, y2, y3, y4, y5, y6, y7, y8, y9, y10, y11⟩ := cz12 K1.out; clear hb1)
    go_ret
    exact ⟨rfl, HB1.out⟩
   ·
    have hv : V = 0 := by have t := HV.out; rw [if_pos rfl, if_neg i0, if_neg i1] at t; exact t
    subst hv
    go_enter Try.func105, Try.ntmps105
    go_wp2_with first
     | (go_at_call 87; refine (HK.out _ (Kd.C_below HR.out HB0.out)).mono ?_; rintro e w1 ⟨rfl, hb1⟩; have HB1 := hid (jc_ HB0.out hb1); have K1 := hid (jb_ H0.out hb1); obtain ⟨y0, y1, y2, y3, y4, y5, y6, y7, y8, y9, y10, y11⟩ := cz12 K1.out; clear hb1)
    go_ret
    exact ⟨rfl, HB1.out⟩
theorem xp_ (id m u b c z s me o a l : Int) (A0 : Option Addr) (c0 : Nat) (L : List S59) (lo hi : Int) (w : World) (hr0 : Kd.C k59 w A0 L.length L) (hc0 : L.length <= c0) :
  Calls Try.prog 20 #[tabV id m u b c z s me o a l (.slice A0 L.length c0), .int .i64 lo, .int .i64 hi] w fun e w' => e = .returned (.int .i64 (cntZ lo hi L)) /\ Below w.heap.size w w' := by
 have HR := hid hr0
 obtain ⟨n, hn⟩ : ∃ n, n = L.length := ⟨_, rfl⟩
 rw [<- hn]
 have Hn := hid hn
 clear hr0 hn
 have H := al1 w (jI_ id m u b c z s me o a l (.slice A0 n c0))
 have H0 := hid H.1; have HB0 := hid H.2; clear H
 have HM := hid (Kd.C_max HR.out)
 go_enter Try.func20, Try.ntmps20
 go_wp2
 go_loopw [7, 8] (fun v7 v8 wr => ∃ j : Nat, v7 = .int .i64 (cntZ lo hi (L.take j)) /\ v8 = .int .i64 j /\ j <= n /\ Hid (wr.heap[w.heap.size]? = some (jI_ id m u b c z s me o a l (.slice A0 n c0))) /\ Hid (Below w.heap.size w wr)) (fun v7 v8 _ => ((n : Int) - intOf v8).toNat)
 case atStart => exact ⟨0, by simp [cntZ], rfl, by omega, H0, HB0⟩
 case round =>
  obtain ⟨j, rfl, rfl, hj, HT, HB⟩ := hrel
  obtain ⟨t0, t1, t2, t3, t4, t5, t6, t7, t8, t9, t10, t11⟩ := cz12 HT.out
  by_cases hlt : j < n
  ·
   have c1 : (j : Int) < (n : Int) := by omega
   have hC := Kd.C_below HR.out HB.out
   obtain ⟨ad, e, y0, y1, y2⟩ := kn_ hC (j : Int) (by omega) (by have := Hn.out; omega)
   subst e
   have hM := HM.out; have hN := Hn.out
   have n1 := zR_ lo hi L j (by omega)
   have l1 := cntZ_le lo hi (L.take j)
   rw [List.length_take] at l1
   obtain ⟨x, hx⟩ : ∃ x, x = jl_ L (j : Int) := ⟨_, rfl⟩
   rw [<- hx] at y0 y1 y2 n1
   simp only [Int.toNat_natCast] at y0 y1 y2
   clear hx hC
   have N1 := hid n1; have L1 := hid l1; have HN := hid hN; clear n1 l1 hN
   have e2 : wrap64 ((j : Int) + 1) = ((j + 1 : Nat) : Int) := by have := HN.out; unfold wrap64; push_cast; omega
   have E2 := hid e2; clear e2
   by_cases s1 : lo <= x.f0
   ·
    by_cases s2 : x.f0 <= hi
    ·
     have e3 : wrap64 (cntZ lo hi (L.take j) + 1) = cntZ lo hi (L.take (j + 1)) := by have t := N1.out; have := L1.out; have := HN.out; rw [if_pos ⟨s1, s2⟩] at t; unfold wrap64; omega
     have E3 := hid e3; clear e3
     go_wp2
     rw [E2.out, E3.out]
     exact ⟨⟨j + 1, rfl, rfl, by omega, HT, HB⟩, by simp only [intOf]; push_cast; omega⟩
    ·
     have e3 : cntZ lo hi (L.take (j + 1)) = cntZ lo hi (L.take j) := by have t := N1.out; rw [if_neg (fun q => s2 q.2)] at t; omega
     have E3 := hid e3; clear e3
     go_wp2
     rw [E2.out, <- E3.out]
     exact ⟨⟨j + 1, rfl, rfl, by omega, HT, HB⟩, by simp only [intOf]; push_cast; omega⟩
   ·
    have e3 : cntZ lo hi (L.take (j + 1)) = cntZ lo hi (L.take j) := by have t := N1.out; rw [if_neg (fun q => s1 q.1)] at t; omega
    have E3 := hid e3; clear e3
    go_wp2
    rw [E2.out, <- E3.out]
    exact ⟨⟨j + 1, rfl, rfl, by omega, HT, HB⟩, by simp only [intOf]; push_cast; omega⟩
  ·
   have He := hid (show j = n by omega)
   have c1 : ¬ (j : Int) < (n : Int) := by omega
   go_wp2
   go_ret
   exact ⟨by rw [He.out, Hn.out, List.take_length]; rfl, HB.out⟩
theorem xn_ (id m u b c z s me o a l : Int) (A0 : Option Addr) (c0 : Nat) (L : List S59) (i : Int) (x : S59) (w : World) (hr0 : Kd.C k59 w A0 L.length L) (hc0 : L.length <= c0) (hl : L.length < 1000000000) (i0 : 0 <= i) (i1 : i < (L.length : Int)) :
  Calls Try.prog 86 #[tabV id m u b c z s me o a l (.slice A0 L.length c0), .int .i64 i, zoV x] w fun e w' => ∃ v : Value, e = .returned (tabV id m u b c z s me o a l v) /\ Kd.R k59 59 w' w.heap.size (fun _ => True) v (L.set i.toNat x) /\ Below w.heap.size w w' := by
 have hpos : 0 < L.length := by omega
 obtain ⟨n, hn⟩ : ∃ n, n = L.length := ⟨_, rfl⟩
 have hf := fun (base : Nat) (ok : Nat -> Prop) (W : World) (v : Value) (h : Kd.R k59 59 W base ok v L) => Kd.R_form h hpos
 obtain ⟨ad, e, -⟩ := kn_ hr0 i i0 i1
 subst e
 rw [<- hn] at hr0 hc0 hl i1 hf ⊢
 have HR := hid hr0; have HF := hid hf; have Hn := hid hn; clear hr0 hn hf
 obtain ⟨st, wp, gen⟩ := x
 have hsz := sz3 w (jI_ id m u b c z s me o a l (.slice (some ad) n c0)) (zoO st wp gen) (jI_ 0 0 0 0 0 0 0 0 0 0 0 (.slice none 0 0))
 have H := al3 w (jI_ id m u b c z s me o a l (.slice (some ad) n c0)) (zoO st wp gen) (jI_ 0 0 0 0 0 0 0 0 0 0 0 (.slice none 0 0))
 have H0 := hid H.1; have H1 := hid H.2.1; have H2 := hid H.2.2.1; have HB0 := hid H.2.2.2; have HSZ := hid hsz; clear H hsz
 have hbe := ju_ (((w.alloc (jI_ id m u b c z s me o a l (.slice (some ad) n c0))).alloc (zoO st wp gen)).alloc (jI_ 0 0 0 0 0 0 0 0 0 0 0 (.slice none 0 0))) (.cells #[] 59)
 rw [HSZ.out] at hbe
 have HBS := hid (show w.heap.size + 1 + 1 + 1 <= ((((w.alloc (jI_ id m u b c z s me o a l (.slice (some ad) n c0))).alloc (zoO st wp gen)).alloc (jI_ 0 0 0 0 0 0 0 0 0 0 0 (.slice none 0 0))).alloc (.cells #[] 59)).heap.size by have := jX_ hbe; omega)
 have hO : Kd.R k59 59 ((((w.alloc (jI_ id m u b c z s me o a l (.slice (some ad) n c0))).alloc (zoO st wp gen)).alloc (jI_ 0 0 0 0 0 0 0 0 0 0 0 (.slice none 0 0))).alloc (.cells #[] 59)) (w.heap.size + 1 + 1 + 1) (fun _ => True) (.slice (some ⟨w.heap.size + 1 + 1 + 1, 0, none⟩) 0 0) ([] : List S59) :=
  ⟨fun _ _ => trivial, [], ⟨rfl, .inr ⟨w.heap.size + 1 + 1 + 1, 0, #[], rfl, Nat.le_refl _, hbe, Nat.le_refl _, by simp [maxLen], rfl, rfl⟩⟩, ⟨rfl, fun j p hj => by simp at hj⟩⟩
 have HO := hid hO; clear hO hbe
 have hbb := jg_ (Below.refl _ (((w.alloc (jI_ id m u b c z s me o a l (.slice (some ad) n c0))).alloc (zoO st wp gen)).alloc (jI_ 0 0 0 0 0 0 0 0 0 0 0 (.slice none 0 0)))) (.cells #[] 59)
 rw [HSZ.out] at hbb
 have HBB := hid hbb; clear hbb
 have hx0 := hid (ja_ H0.out (.cells #[] 59))
 obtain ⟨t0, t1, t2, t3, t4, t5, t6, t7, t8, t9, t10, t11⟩ := cz12 hx0.out
 have hge : w.heap.size <= w.heap.size + 1 + 1 := by omega
 go_enter Try.func86, Try.ntmps86
 go_wp2_with ((with_reducible refine ki_ (b := .append) (xs := #[.tmp 8, .tmp 10]) rfl ?_); at_builtin; refine Kd.R_append_rows k59 (w0 := ((w.alloc (jI_ id m u b c z s me o a l (.slice (some ad) n c0))).alloc (zoO st wp gen)).alloc (jI_ 0 0 0 0 0 0 0 0 0 0 0 (.slice none 0 0))) (w.heap.size + 1 + 1 + 1) rfl (.tmp 8) (.tmp 10) 25 59 (.agg #[(.int .i64 0), (.int .i64 0), (.int .i64 0)]) 24 rfl Try.underlying25 info59 rfl (by decide) (by omega) (.slice (some ⟨w.heap.size + 1 + 1 + 1, 0, none⟩) 0 0) [] L (some ad) n c0 (fun _ => True) (fun _ => False) rfl rfl ?aO ?aR (fun _ _ h => h) (fun _ h => h.elim) ?aF ?aB ?aS ?aL ?_; (case aR => exact Kd.C_alloc (Kd.C_below HR.out HB0.out) _); (case aB => exact HBB.out); (case aF => exact (fun _ _ => trivial)); (case aO => exact HO.out); (case aS => exact HBS.out); (case aL => simp; omega); intro v1 w1 ho hb hgr hat; rw [List.nil_append] at ho; rw [<- HSZ.out] at hb; obtain ⟨g, cp, rfl, hgb, hgl, -⟩ := HF.out _ _ _ _ ho; have HB1 := hid (jc_ HB0.out hb); have K1 := hid (jb_ H0.out hb); have G1 := hid (jb_ H1.out hb); have G2 := hid (jb_ H2.out hb); clear hb hgr hat; have n0 : g ≠ w.heap.size := (by omega); have n0p : w.heap.size ≠ g := (by omega); have n1 : g ≠ w.heap.size + 1 := (by omega); have n1p : w.heap.size + 1 ≠ g := (by omega); have n2 : g ≠ w.heap.size + 1 + 1 := (by omega); have n2p : w.heap.size + 1 + 1 ≠ g := (by omega); obtain ⟨y0, y1, y2, y3, y4, y5, y6, y7, y8, y9, y10, y11⟩ := cz12 K1.out; obtain ⟨yf0, yf1, yf2, yf3, yf4, yf5, yf6, yf7, yf8, yf9, yf10, yf11⟩ := fz12 K1.out; obtain ⟨u0, u1, u2⟩ := cz3 G1.out; obtain ⟨v0, v1, v2, v3, v4, v5, v6, v7, v8, v9, v10, v11⟩ := cz12 G2.out; obtain ⟨vf0, vf1, vf2, vf3, vf4, vf5, vf6, vf7, vf8, vf9, vf10, vf11⟩ := fz12 G2.out; obtain ⟨⟨e0, e1, e2⟩, ⟨ef0, ef1, ef2⟩, hR3⟩ := R_zone ho i i0 i1; have HR3 := hid (hR3 ⟨st, wp, gen⟩); clear ho hR3)
 have F2 := fun (u0 u1 u2 : Value) => jv_ (far_zone (i := i.toNat * 3) (u0 := u0) (u1 := u1) (u2 := u2) G2.out n2p) (by omega : w.heap.size + 1 + 1 ≠ w.heap.size) (p := ⟨w.heap.size, 11, none⟩) (.slice (some ⟨g, 0, none⟩) n cp)
 refine bodyPost_ret (results_cell_row rfl _ _ (w.heap.size + 1 + 1) 35 #[.int .i64 id, .int .i64 m, .int .i64 u, .int .i64 b, .int .i64 c, .int .i64 z, .int .i64 s, .int .i64 me, .int .i64 o, .int .i64 a, .int .i64 l, .slice (some ⟨g, 0, none⟩) n cp] (0, 0) _ rfl (ko_ (F2 _ _ _)) Try.underlying35 rfl (by kernel_rfl)) rfl ?_
 refine ⟨_, rfl, ?_, bl12 (jx_ (bl_zone HB1.out (by omega)) (Nat.le_refl _)) hge⟩
 exact Kd.R_lower (R12 (Kd.R_set HR3.out (far_zone K1.out n0p) (by decide) 11 _) (F2 _ _ _) (by decide)) (by omega)
theorem xg_ {id m u b c z s me o a l : Int} {L : List S59} {i : Int} (h : kf_ id m u b c z s me o a l L = true) (i0 : 0 <= i) (i1 : i < (L.length : Int)) : rzP (kg_ m u b c z s me o a l) (jl_ L i) = true := by
 simp only [kf_, Bool.and_eq_true, decide_eq_true_eq] at h
 have e := Geo.rd_get L i.toNat (by omega)
 rw [Int.toNat_of_nonneg i0] at e
 rw [e]
 exact List.all_eq_true.mp h.2.2 _ (List.getElem_mem _)
theorem yq_ (L : List S59) (i : Int) (i0 : 0 <= i) (i1 : i < (L.length : Int)) : L.set i.toNat (jl_ L i) = L := by
 have e := Geo.rd_get L i.toNat (by omega)
 rw [Int.toNat_of_nonneg i0] at e
 rw [e, List.set_getElem_self]
theorem zF_ (id m u b c z s me o a l : Int) (A0 : Option Addr) (c0 : Nat) (L : List S59) (i : Int) (w : World) (hr0 : Kd.C k59 w A0 L.length L) (hc0 : L.length <= c0) (hl : L.length <= 1000000) :
  Calls Try.prog 65 #[tabV id m u b c z s me o a l (.slice A0 L.length c0), .int .i64 i] w fun e w' => ∃ v, e = .returned (.tuple #[v, .int .i64 (jL_ id m u b c z s me o a l L i).2]) /\ TabD id m u b c z s me o a l (jL_ id m u b c z s me o a l L i).1 L (.slice A0 L.length c0) w.heap.size w' v /\ Below w.heap.size w w' := by
 obtain ⟨n, hn⟩ : ∃ n, n = L.length := ⟨_, rfl⟩
 obtain ⟨V, hV⟩ : ∃ V, V = jL_ id m u b c z s me o a l L i := ⟨_, rfl⟩
 rw [<- hV]; unfold jL_ at hV
 have hM := fun W h => yT_ id m u b c z s me o a l A0 c0 L i W h hc0 hl
 have hok := @vc_ id m u b c z s me o a l L i
 generalize atZ id m u b c z s me o a l L i = q at hM hok hV
 obtain ⟨⟨st, wp, gen⟩, e0⟩ := q
 dsimp only at hM hok hV
 by_cases he : e0 = 0
 ·
  subst he
  obtain ⟨i0, i1, hl64, hx, hrt⟩ := hok rfl
  have hz := (Geo.rz_iff _ _).mp (xg_ hrt i0 i1)
  rw [<- hx] at hz
  dsimp only at hz
  have hself := yq_ L i i0 i1
  rw [<- hx] at hself
  have hW := fun x W h => xn_ id m u b c z s me o a l A0 c0 L i x W h hc0 (by omega) i0 i1
  rw [<- hn] at hW i1
  have HW := hid hW; have HXX := hid hx; have HSF := hid hself; clear hW hok hl64 hx hself
  have hv : V = (some (L.set i.toNat ⟨3, wp, gen⟩), 0) := by rw [hV, if_neg (by simp)]
  subst hv
  rw [<- hn] at hM hr0 hc0 ⊢
  have HR := hid hr0; have HM := hid hM; have Hn := hid hn; clear hr0 hM hn; (try clear hV)
  have H := al2 w (jI_ id m u b c z s me o a l (.slice A0 n c0)) (jI_ 0 0 0 0 0 0 0 0 0 0 0 (.slice none 0 0))
  have H0 := hid H.1; have H1 := hid H.2.1; have HB0 := hid H.2.2; clear H
  obtain ⟨t0, t1, t2, t3, t4, t5, t6, t7, t8, t9, t10, t11⟩ := cz12 H0.out
  have hge : w.heap.size <= w.heap.size + 1 := by omega
  go_enter Try.func65, Try.ntmps65
  go_wp2_with first
   | (go_at_call 105; with_reducible refine (HM.out _ (Kd.C_below HR.out HB0.out)).mono ?_; rintro e w1 ⟨rfl, hb1⟩; have hs := hb1.size; rw [sz2] at hs; have HB1 := hid (jc_ HB0.out hb1); have K1 := hid (jb_ H0.out hb1); have G1 := hid (jb_ H1.out hb1); clear hb1; have q0 : w1.heap.size ≠ w.heap.size := (by omega); have q0p : w.heap.size ≠ w1.heap.size := (by omega); have q1 : w1.heap.size ≠ w.heap.size + 1 := (by omega); have q1p : w.heap.size + 1 ≠ w1.heap.size := (by omega); obtain ⟨k0, k1, k2, k3, k4, k5, k6, k7, k8, k9, k10, k11⟩ := cz12 K1.out; obtain ⟨kf0, kf1, kf2, kf3, kf4, kf5, kf6, kf7, kf8, kf9, kf10, kf11⟩ := fz12 K1.out; obtain ⟨ad, ea, u0, u1, u2⟩ := kn_ (Kd.C_below HR.out HB1.out) i i0 i1; rw [<- HXX.out] at u0 u1 u2; subst ea; have Xa := hid (ju_ w1 (zoO st wp gen)); have Ka := hid (ja_ K1.out (zoO st wp gen)); have Ga := hid (ja_ G1.out (zoO st wp gen)); have HBa := hid (jg_ HB1.out (zoO st wp gen)); obtain ⟨xa0, xa1, xa2, xa3, xa4, xa5, xa6, xa7, xa8, xa9, xa10, xa11⟩ := cz12 Ka.out; obtain ⟨ya0, ya1, ya2, ya3, ya4, ya5, ya6, ya7, ya8, ya9, ya10, ya11⟩ := cz12 Ga.out; obtain ⟨yfa0, yfa1, yfa2, yfa3, yfa4, yfa5, yfa6, yfa7, yfa8, yfa9, yfa10, yfa11⟩ := fz12 Ga.out; obtain ⟨ra0, ra1, ra2⟩ := cz3 Xa.out; obtain ⟨rfa0, rfa1, rfa2⟩ := fz3 Xa.out; have Xb := hid (ju_ w1 (zoO 3 wp gen)); have Kb := hid (ja_ K1.out (zoO 3 wp gen)); have Gb := hid (ja_ G1.out (zoO 3 wp gen)); have HBb := hid (jg_ HB1.out (zoO 3 wp gen)); obtain ⟨xb0, xb1, xb2, xb3, xb4, xb5, xb6, xb7, xb8, xb9, xb10, xb11⟩ := cz12 Kb.out; obtain ⟨yb0, yb1, yb2, yb3, yb4, yb5, yb6, yb7, yb8, yb9, yb10, yb11⟩ := cz12 Gb.out; obtain ⟨yfb0, yfb1, yfb2, yfb3, yfb4, yfb5, yfb6, yfb7, yfb8, yfb9, yfb10, yfb11⟩ := fz12 Gb.out; obtain ⟨rb0, rb1, rb2⟩ := cz3 Xb.out; obtain ⟨rfb0, rfb1, rfb2⟩ := fz3 Xb.out)
   | (go_at_call 86; refine (HW.out ⟨3, wp, gen⟩ _ (Kd.C_below HR.out HBb.out)).mono ?_; rintro e w2 ⟨v, rfl, hR2, hb2⟩; obtain ⟨A2, c2, rfl⟩ := Kd.R_slice hR2; simp only [List.length_set] at hR2; have G3 := hid (jb_ Gb.out hb2); have HB3 := hid (jc_ HBb.out hb2); have HR2 := hid (Kd.R_lower hR2 HBb.out.size); clear hR2 hb2; obtain ⟨z0, z1, z2, z3, z4, z5, z6, z7, z8, z9, z10, z11⟩ := cz12 G3.out; obtain ⟨zf0, zf1, zf2, zf3, zf4, zf5, zf6, zf7, zf8, zf9, zf10, zf11⟩ := fz12 G3.out)
  refine bodyPost_ret (jj_ rfl _ _ (w.heap.size + 1) 35 #[.int .i64 id, .int .i64 m, .int .i64 u, .int .i64 b, .int .i64 c, .int .i64 z, .int .i64 s, .int .i64 me, .int .i64 o, .int .i64 a, .int .i64 l, .slice A2 _ c2] (0, 0) _ rfl (ko_ G3.out) Try.underlying35 rfl (by kernel_rfl)) rfl ?_
  exact ⟨_, rfl, .inl (.inr ⟨_, _, rfl, rfl, R12 HR2.out G3.out (by decide)⟩), bl12 HB3.out hge⟩
 ·
  have hv : V = (none, e0) := by rw [hV, if_pos he]
  subst hv
  have eb : (e0 == 0) = false := beq_eq_false_iff_ne.mpr he
  clear hok
  rw [<- hn] at hM hr0 hc0 ⊢
  have HR := hid hr0; have HM := hid hM; have Hn := hid hn; clear hr0 hM hn; (try clear hV)
  have H := al2 w (jI_ id m u b c z s me o a l (.slice A0 n c0)) (jI_ 0 0 0 0 0 0 0 0 0 0 0 (.slice none 0 0))
  have H0 := hid H.1; have H1 := hid H.2.1; have HB0 := hid H.2.2; clear H
  obtain ⟨t0, t1, t2, t3, t4, t5, t6, t7, t8, t9, t10, t11⟩ := cz12 H0.out
  have hge : w.heap.size <= w.heap.size + 1 := by omega
  go_enter Try.func65, Try.ntmps65
  go_wp2_with first
   | (go_at_call 105; with_reducible refine (HM.out _ (Kd.C_below HR.out HB0.out)).mono ?_; rintro e w1 ⟨rfl, hb1⟩; have HB1 := hid (jc_ HB0.out hb1); have K1 := hid (jb_ H0.out hb1); have G1 := hid (jb_ H1.out hb1); clear hb1; obtain ⟨k0, k1, k2, k3, k4, k5, k6, k7, k8, k9, k10, k11⟩ := cz12 K1.out)
   | (go_at_call 105; with_reducible refine (HM.out _ (Kd.C_below HR.out HB1.out)).mono ?_; rintro e w2 ⟨rfl, hb2⟩; have HB2 := hid (jc_ HB1.out hb2); have G2 := hid (jb_ G1.out hb2); clear hb2; obtain ⟨g0, g1, g2, g3, g4, g5, g6, g7, g8, g9, g10, g11⟩ := cz12 G2.out; obtain ⟨gf0, gf1, gf2, gf3, gf4, gf5, gf6, gf7, gf8, gf9, gf10, gf11⟩ := fz12 G2.out)
  refine bodyPost_ret (jj_ rfl _ _ (w.heap.size + 1) 35 #[.int .i64 0, .int .i64 0, .int .i64 0, .int .i64 0, .int .i64 0, .int .i64 0, .int .i64 0, .int .i64 0, .int .i64 0, .int .i64 0, .int .i64 0, .slice none 0 0] (0, 0) _ rfl (ko_ G2.out) Try.underlying35 rfl (by kernel_rfl)) rfl ?_
  exact ⟨_, rfl, .inl (.inl ⟨rfl, rfl⟩), bl12 HB2.out hge⟩
theorem rclose_any (id m u b c z s me o a l : Int) (A0 : Option Addr) (c0 : Nat) (L : List S59) (i : Int) (w : World) (hr0 : Kd.C k59 w A0 L.length L) (hc0 : L.length <= c0) (hl : L.length <= 1000000) :
  Calls Try.prog 67 #[tabV id m u b c z s me o a l (.slice A0 L.length c0), .int .i64 i] w fun e w' => ∃ v, e = .returned (.tuple #[v, .int .i64 (jV_ id m u b c z s me o a l L i).2]) /\ TabD id m u b c z s me o a l (jV_ id m u b c z s me o a l L i).1 L (.slice A0 L.length c0) w.heap.size w' v /\ Below w.heap.size w w' := by
 obtain ⟨n, hn⟩ : ∃ n, n = L.length := ⟨_, rfl⟩
 obtain ⟨V, hV⟩ : ∃ V, V = jV_ id m u b c z s me o a l L i := ⟨_, rfl⟩
 rw [<- hV]; unfold jV_ at hV
 have hM := fun W h => yT_ id m u b c z s me o a l A0 c0 L i W h hc0 hl
 have hok := @vc_ id m u b c z s me o a l L i
 generalize atZ id m u b c z s me o a l L i = q at hM hok hV
 obtain ⟨⟨st, wp, gen⟩, e0⟩ := q
 dsimp only at hM hok hV
 by_cases he : e0 = 0
 ·
  subst he
  obtain ⟨i0, i1, hl64, hx, hrt⟩ := hok rfl
  have hz := (Geo.rz_iff _ _).mp (xg_ hrt i0 i1)
  rw [<- hx] at hz
  dsimp only at hz
  have hself := yq_ L i i0 i1
  rw [<- hx] at hself
  have hW := fun x W h => xn_ id m u b c z s me o a l A0 c0 L i x W h hc0 (by omega) i0 i1
  rw [<- hn] at hW i1
  have HW := hid hW; have HXX := hid hx; have HSF := hid hself; clear hW hok hl64 hx hself
  by_cases s1 : st = 1
  ·
   subst s1
   by_cases hw : wp = 0
   ·
    have hv : V = (some (L.set i.toNat ⟨0, wp, gen⟩), 0) := by rw [hV, if_neg (by simp), if_pos rfl, if_pos hw]
    subst hv
    have hg : ¬ 0 < wp := by omega
    clear hw hz
    rw [<- hn] at hM hr0 hc0 ⊢
    have HR := hid hr0; have HM := hid hM; have Hn := hid hn; clear hr0 hM hn; (try clear hV)
    have H := al2 w (jI_ id m u b c z s me o a l (.slice A0 n c0)) (jI_ 0 0 0 0 0 0 0 0 0 0 0 (.slice none 0 0))
    have H0 := hid H.1; have H1 := hid H.2.1; have HB0 := hid H.2.2; clear H
    obtain ⟨t0, t1, t2, t3, t4, t5, t6, t7, t8, t9, t10, t11⟩ := cz12 H0.out
    have hge : w.heap.size <= w.heap.size + 1 := by omega
    go_enter Try.func67, Try.ntmps67
    go_wp2_with first
     | (go_at_call 105; with_reducible refine (HM.out _ (Kd.C_below HR.out HB0.out)).mono ?_; rintro e w1 ⟨rfl, hb1⟩; have hs := hb1.size; rw [sz2] at hs; have HB1 := hid (jc_ HB0.out hb1); have K1 := hid (jb_ H0.out hb1); have G1 := hid (jb_ H1.out hb1); clear hb1; have q0 : w1.heap.size ≠ w.heap.size := (by omega); have q0p : w.heap.size ≠ w1.heap.size := (by omega); have q1 : w1.heap.size ≠ w.heap.size + 1 := (by omega); have q1p : w.heap.size + 1 ≠ w1.heap.size := (by omega); obtain ⟨k0, k1, k2, k3, k4, k5, k6, k7, k8, k9, k10, k11⟩ := cz12 K1.out; obtain ⟨kf0, kf1, kf2, kf3, kf4, kf5, kf6, kf7, kf8, kf9, kf10, kf11⟩ := fz12 K1.out; obtain ⟨ad, ea, u0, u1, u2⟩ := kn_ (Kd.C_below HR.out HB1.out) i i0 i1; rw [<- HXX.out] at u0 u1 u2; subst ea; have Xa := hid (ju_ w1 (zoO 1 wp gen)); have Ka := hid (ja_ K1.out (zoO 1 wp gen)); have Ga := hid (ja_ G1.out (zoO 1 wp gen)); have HBa := hid (jg_ HB1.out (zoO 1 wp gen)); obtain ⟨xa0, xa1, xa2, xa3, xa4, xa5, xa6, xa7, xa8, xa9, xa10, xa11⟩ := cz12 Ka.out; obtain ⟨ya0, ya1, ya2, ya3, ya4, ya5, ya6, ya7, ya8, ya9, ya10, ya11⟩ := cz12 Ga.out; obtain ⟨yfa0, yfa1, yfa2, yfa3, yfa4, yfa5, yfa6, yfa7, yfa8, yfa9, yfa10, yfa11⟩ := fz12 Ga.out; obtain ⟨ra0, ra1, ra2⟩ := cz3 Xa.out; obtain ⟨rfa0, rfa1, rfa2⟩ := fz3 Xa.out; have Xb := hid (ju_ w1 (zoO 0 wp gen)); have Kb := hid (ja_ K1.out (zoO 0 wp gen)); have Gb := hid (ja_ G1.out (zoO 0 wp gen)); have HBb := hid (jg_ HB1.out (zoO 0 wp gen)); obtain ⟨xb0, xb1, xb2, xb3, xb4, xb5, xb6, xb7, xb8, xb9, xb10, xb11⟩ := cz12 Kb.out; obtain ⟨yb0, yb1, yb2, yb3, yb4, yb5, yb6, yb7, yb8, yb9, yb10, yb11⟩ := cz12 Gb.out; obtain ⟨yfb0, yfb1, yfb2, yfb3, yfb4, yfb5, yfb6, yfb7, yfb8, yfb9, yfb10, yfb11⟩ := fz12 Gb.out; obtain ⟨rb0, rb1, rb2⟩ := cz3 Xb.out; obtain ⟨rfb0, rfb1, rfb2⟩ := fz3 Xb.out)
     | (go_at_call 86; refine (HW.out ⟨0, wp, gen⟩ _ (Kd.C_below HR.out HBb.out)).mono ?_; rintro e w2 ⟨v, rfl, hR2, hb2⟩; obtain ⟨A2, c2, rfl⟩ := Kd.R_slice hR2; simp only [List.length_set] at hR2; have G3 := hid (jb_ Gb.out hb2); have HB3 := hid (jc_ HBb.out hb2); have HR2 := hid (Kd.R_lower hR2 HBb.out.size); clear hR2 hb2; obtain ⟨z0, z1, z2, z3, z4, z5, z6, z7, z8, z9, z10, z11⟩ := cz12 G3.out; obtain ⟨zf0, zf1, zf2, zf3, zf4, zf5, zf6, zf7, zf8, zf9, zf10, zf11⟩ := fz12 G3.out)
    refine bodyPost_ret (jj_ rfl _ _ (w.heap.size + 1) 35 #[.int .i64 id, .int .i64 m, .int .i64 u, .int .i64 b, .int .i64 c, .int .i64 z, .int .i64 s, .int .i64 me, .int .i64 o, .int .i64 a, .int .i64 l, .slice A2 _ c2] (0, 0) _ rfl (ko_ G3.out) Try.underlying35 rfl (by kernel_rfl)) rfl ?_
    exact ⟨_, rfl, .inl (.inr ⟨_, _, rfl, rfl, R12 HR2.out G3.out (by decide)⟩), bl12 HB3.out hge⟩
   ·
    have hv : V = (some (L.set i.toNat ⟨2, wp, gen⟩), 0) := by rw [hV, if_neg (by simp), if_pos rfl, if_neg hw]
    subst hv
    have hg : 0 < wp := by omega
    clear hw hz
    rw [<- hn] at hM hr0 hc0 ⊢
    have HR := hid hr0; have HM := hid hM; have Hn := hid hn; clear hr0 hM hn; (try clear hV)
    have H := al2 w (jI_ id m u b c z s me o a l (.slice A0 n c0)) (jI_ 0 0 0 0 0 0 0 0 0 0 0 (.slice none 0 0))
    have H0 := hid H.1; have H1 := hid H.2.1; have HB0 := hid H.2.2; clear H
    obtain ⟨t0, t1, t2, t3, t4, t5, t6, t7, t8, t9, t10, t11⟩ := cz12 H0.out
    have hge : w.heap.size <= w.heap.size + 1 := by omega
    go_enter Try.func67, Try.ntmps67
    go_wp2_with first
     | (go_at_call 105; with_reducible refine (HM.out _ (Kd.C_below HR.out HB0.out)).mono ?_; rintro e w1 ⟨rfl, hb1⟩; have hs := hb1.size; rw [sz2] at hs; have HB1 := hid (jc_ HB0.out hb1); have K1 := hid (jb_ H0.out hb1); have G1 := hid (jb_ H1.out hb1); clear hb1; have q0 : w1.heap.size ≠ w.heap.size := (by omega); have q0p : w.heap.size ≠ w1.heap.size := (by omega); have q1 : w1.heap.size ≠ w.heap.size + 1 := (by omega); have q1p : w.heap.size + 1 ≠ w1.heap.size := (by omega); obtain ⟨k0, k1, k2, k3, k4, k5, k6, k7, k8, k9, k10, k11⟩ := cz12 K1.out; obtain ⟨kf0, kf1, kf2, kf3, kf4, kf5, kf6, kf7, kf8, kf9, kf10, kf11⟩ := fz12 K1.out; obtain ⟨ad, ea, u0, u1, u2⟩ := kn_ (Kd.C_below HR.out HB1.out) i i0 i1; rw [<- HXX.out] at u0 u1 u2; subst ea; have Xa := hid (ju_ w1 (zoO 1 wp gen)); have Ka := hid (ja_ K1.out (zoO 1 wp gen)); have Ga := hid (ja_ G1.out (zoO 1 wp gen)); have HBa := hid (jg_ HB1.out (zoO 1 wp gen)); obtain ⟨xa0, xa1, xa2, xa3, xa4, xa5, xa6, xa7, xa8, xa9, xa10, xa11⟩ := cz12 Ka.out; obtain ⟨ya0, ya1, ya2, ya3, ya4, ya5, ya6, ya7, ya8, ya9, ya10, ya11⟩ := cz12 Ga.out; obtain ⟨yfa0, yfa1, yfa2, yfa3, yfa4, yfa5, yfa6, yfa7, yfa8, yfa9, yfa10, yfa11⟩ := fz12 Ga.out; obtain ⟨ra0, ra1, ra2⟩ := cz3 Xa.out; obtain ⟨rfa0, rfa1, rfa2⟩ := fz3 Xa.out; have Xb := hid (ju_ w1 (zoO 0 wp gen)); have Kb := hid (ja_ K1.out (zoO 0 wp gen)); have Gb := hid (ja_ G1.out (zoO 0 wp gen)); have HBb := hid (jg_ HB1.out (zoO 0 wp gen)); obtain ⟨xb0, xb1, xb2, xb3, xb4, xb5, xb6, xb7, xb8, xb9, xb10, xb11⟩ := cz12 Kb.out; obtain ⟨yb0, yb1, yb2, yb3, yb4, yb5, yb6, yb7, yb8, yb9, yb10, yb11⟩ := cz12 Gb.out; obtain ⟨yfb0, yfb1, yfb2, yfb3, yfb4, yfb5, yfb6, yfb7, yfb8, yfb9, yfb10, yfb11⟩ := fz12 Gb.out; obtain ⟨rb0, rb1, rb2⟩ := cz3 Xb.out; obtain ⟨rfb0, rfb1, rfb2⟩ := fz3 Xb.out; have Xc := hid (ju_ w1 (zoO 2 wp gen)); have Kc := hid (ja_ K1.out (zoO 2 wp gen)); have Gc := hid (ja_ G1.out (zoO 2 wp gen)); have HBc := hid (jg_ HB1.out (zoO 2 wp gen)); obtain ⟨xc0, xc1, xc2, xc3, xc4, xc5, xc6, xc7, xc8, xc9, xc10, xc11⟩ := cz12 Kc.out; obtain ⟨yc0, yc1, yc2, yc3, yc4, yc5, yc6, yc7, yc8, yc9, yc10, yc11⟩ := cz12 Gc.out; obtain ⟨yfc0, yfc1, yfc2, yfc3, yfc4, yfc5, yfc6, yfc7, yfc8, yfc9, yfc10, yfc11⟩ := fz12 Gc.out; obtain ⟨rc0, rc1, rc2⟩ := cz3 Xc.out; obtain ⟨rfc0, rfc1, rfc2⟩ := fz3 Xc.out)
     | (go_at_call 86; refine (HW.out ⟨2, wp, gen⟩ _ (Kd.C_below HR.out HBc.out)).mono ?_; rintro e w2 ⟨v, rfl, hR2, hb2⟩; obtain ⟨A2, c2, rfl⟩ := Kd.R_slice hR2; simp only [List.length_set] at hR2; have G3 := hid (jb_ Gc.out hb2); have HB3 := hid (jc_ HBc.out hb2); have HR2 := hid (Kd.R_lower hR2 HBc.out.size); clear hR2 hb2; obtain ⟨z0, z1, z2, z3, z4, z5, z6, z7, z8, z9, z10, z11⟩ := cz12 G3.out; obtain ⟨zf0, zf1, zf2, zf3, zf4, zf5, zf6, zf7, zf8, zf9, zf10, zf11⟩ := fz12 G3.out)
    refine bodyPost_ret (jj_ rfl _ _ (w.heap.size + 1) 35 #[.int .i64 id, .int .i64 m, .int .i64 u, .int .i64 b, .int .i64 c, .int .i64 z, .int .i64 s, .int .i64 me, .int .i64 o, .int .i64 a, .int .i64 l, .slice A2 _ c2] (0, 0) _ rfl (ko_ G3.out) Try.underlying35 rfl (by kernel_rfl)) rfl ?_
    exact ⟨_, rfl, .inl (.inr ⟨_, _, rfl, rfl, R12 HR2.out G3.out (by decide)⟩), bl12 HB3.out hge⟩
  ·
   have hv : V = (none, 9) := by rw [hV, if_neg (by simp), if_neg s1]
   subst hv
   have s1b : (st == 1) = false := beq_eq_false_iff_ne.mpr s1
   clear hz
   rw [<- hn] at hM hr0 hc0 ⊢
   have HR := hid hr0; have HM := hid hM; have Hn := hid hn; clear hr0 hM hn; (try clear hV)
   have H := al2 w (jI_ id m u b c z s me o a l (.slice A0 n c0)) (jI_ 0 0 0 0 0 0 0 0 0 0 0 (.slice none 0 0))
   have H0 := hid H.1; have H1 := hid H.2.1; have HB0 := hid H.2.2; clear H
   obtain ⟨t0, t1, t2, t3, t4, t5, t6, t7, t8, t9, t10, t11⟩ := cz12 H0.out
   have hge : w.heap.size <= w.heap.size + 1 := by omega
   go_enter Try.func67, Try.ntmps67
   go_wp2_with first
    | (go_at_call 105; with_reducible refine (HM.out _ (Kd.C_below HR.out HB0.out)).mono ?_; rintro e w1 ⟨rfl, hb1⟩; have hs := hb1.size; rw [sz2] at hs; have HB1 := hid (jc_ HB0.out hb1); have K1 := hid (jb_ H0.out hb1); have G1 := hid (jb_ H1.out hb1); clear hb1; have q0 : w1.heap.size ≠ w.heap.size := (by omega); have q0p : w.heap.size ≠ w1.heap.size := (by omega); have q1 : w1.heap.size ≠ w.heap.size + 1 := (by omega); have q1p : w.heap.size + 1 ≠ w1.heap.size := (by omega); obtain ⟨k0, k1, k2, k3, k4, k5, k6, k7, k8, k9, k10, k11⟩ := cz12 K1.out; obtain ⟨kf0, kf1, kf2, kf3, kf4, kf5, kf6, kf7, kf8, kf9, kf10, kf11⟩ := fz12 K1.out; obtain ⟨ad, ea, u0, u1, u2⟩ := kn_ (Kd.C_below HR.out HB1.out) i i0 i1; rw [<- HXX.out] at u0 u1 u2; subst ea; have Xa := hid (ju_ w1 (zoO st wp gen)); have Ka := hid (ja_ K1.out (zoO st wp gen)); have Ga := hid (ja_ G1.out (zoO st wp gen)); have HBa := hid (jg_ HB1.out (zoO st wp gen)); obtain ⟨xa0, xa1, xa2, xa3, xa4, xa5, xa6, xa7, xa8, xa9, xa10, xa11⟩ := cz12 Ka.out; obtain ⟨ya0, ya1, ya2, ya3, ya4, ya5, ya6, ya7, ya8, ya9, ya10, ya11⟩ := cz12 Ga.out; obtain ⟨yfa0, yfa1, yfa2, yfa3, yfa4, yfa5, yfa6, yfa7, yfa8, yfa9, yfa10, yfa11⟩ := fz12 Ga.out; obtain ⟨ra0, ra1, ra2⟩ := cz3 Xa.out; obtain ⟨rfa0, rfa1, rfa2⟩ := fz3 Xa.out)
   refine bodyPost_ret (jj_ rfl _ _ (w.heap.size + 1) 35 #[.int .i64 0, .int .i64 0, .int .i64 0, .int .i64 0, .int .i64 0, .int .i64 0, .int .i64 0, .int .i64 0, .int .i64 0, .int .i64 0, .int .i64 0, .slice none 0 0] (0, 0) _ rfl (ko_ Ga.out) Try.underlying35 rfl (by kernel_rfl)) rfl ?_
   exact ⟨_, rfl, .inl (.inl ⟨rfl, rfl⟩), bl12 HBa.out hge⟩
 ·
  have hv : V = (none, e0) := by rw [hV, if_pos he]
  subst hv
  have eb : (e0 == 0) = false := beq_eq_false_iff_ne.mpr he
  clear hok
  rw [<- hn] at hM hr0 hc0 ⊢
  have HR := hid hr0; have HM := hid hM; have Hn := hid hn; clear hr0 hM hn; (try clear hV)
  have H := al2 w (jI_ id m u b c z s me o a l (.slice A0 n c0)) (jI_ 0 0 0 0 0 0 0 0 0 0 0 (.slice none 0 0))
  have H0 := hid H.1; have H1 := hid H.2.1; have HB0 := hid H.2.2; clear H
  obtain ⟨t0, t1, t2, t3, t4, t5, t6, t7, t8, t9, t10, t11⟩ := cz12 H0.out
  have hge : w.heap.size <= w.heap.size + 1 := by omega
  go_enter Try.func67, Try.ntmps67
  go_wp2_with first
   | (go_at_call 105; with_reducible refine (HM.out _ (Kd.C_below HR.out HB0.out)).mono ?_; rintro e w1 ⟨rfl, hb1⟩; have HB1 := hid (jc_ HB0.out hb1); have K1 := hid (jb_ H0.out hb1); have G1 := hid (jb_ H1.out hb1); clear hb1; obtain ⟨k0, k1, k2, k3, k4, k5, k6, k7, k8, k9, k10, k11⟩ := cz12 K1.out)
   | (go_at_call 105; with_reducible refine (HM.out _ (Kd.C_below HR.out HB1.out)).mono ?_; rintro e w2 ⟨rfl, hb2⟩; have HB2 := hid (jc_ HB1.out hb2); have G2 := hid (jb_ G1.out hb2); clear hb2; obtain ⟨g0, g1, g2, g3, g4, g5, g6, g7, g8, g9, g10, g11⟩ := cz12 G2.out; obtain ⟨gf0, gf1, gf2, gf3, gf4, gf5, gf6, gf7, gf8, gf9, gf10, gf11⟩ := fz12 G2.out)
  refine bodyPost_ret (jj_ rfl _ _ (w.heap.size + 1) 35 #[.int .i64 0, .int .i64 0, .int .i64 0, .int .i64 0, .int .i64 0, .int .i64 0, .int .i64 0, .int .i64 0, .int .i64 0, .int .i64 0, .int .i64 0, .slice none 0 0] (0, 0) _ rfl (ko_ G2.out) Try.underlying35 rfl (by kernel_rfl)) rfl ?_
  exact ⟨_, rfl, .inl (.inl ⟨rfl, rfl⟩), bl12 HB2.out hge⟩
theorem rreset_any (id m u b c z s me o a l : Int) (A0 : Option Addr) (c0 : Nat) (L : List S59) (i : Int) (w : World) (hr0 : Kd.C k59 w A0 L.length L) (hc0 : L.length <= c0) (hl : L.length <= 1000000) :
  Calls Try.prog 64 #[tabV id m u b c z s me o a l (.slice A0 L.length c0), .int .i64 i] w fun e w' => ∃ v, e = .returned (.tuple #[v, .int .i64 (jT_ id m u b c z s me o a l L i).2]) /\ TabD id m u b c z s me o a l (jT_ id m u b c z s me o a l L i).1 L (.slice A0 L.length c0) w.heap.size w' v /\ Below w.heap.size w w' := by
 obtain ⟨n, hn⟩ : ∃ n, n = L.length := ⟨_, rfl⟩
 obtain ⟨V, hV⟩ : ∃ V, V = jT_ id m u b c z s me o a l L i := ⟨_, rfl⟩
 rw [<- hV]; unfold jT_ at hV
 have hM := fun W h => yT_ id m u b c z s me o a l A0 c0 L i W h hc0 hl
 have hok := @vc_ id m u b c z s me o a l L i
 generalize atZ id m u b c z s me o a l L i = q at hM hok hV
 obtain ⟨⟨st, wp, gen⟩, e0⟩ := q
 dsimp only at hM hok hV
 by_cases he : e0 = 0
 ·
  subst he
  obtain ⟨i0, i1, hl64, hx, hrt⟩ := hok rfl
  have hz := (Geo.rz_iff _ _).mp (xg_ hrt i0 i1)
  rw [<- hx] at hz
  dsimp only at hz
  have hself := yq_ L i i0 i1
  rw [<- hx] at hself
  have hW := fun x W h => xn_ id m u b c z s me o a l A0 c0 L i x W h hc0 (by omega) i0 i1
  rw [<- hn] at hW i1
  have HW := hid hW; have HXX := hid hx; have HSF := hid hself; clear hW hok hl64 hx hself
  by_cases s0 : st = 0
  ·
   subst s0
   have hv : V = (some (L.set i.toNat ⟨0, wp, gen⟩), 0) := by rw [hV, if_neg (by simp), if_pos rfl]
   subst hv
   clear hz
   rw [<- hn] at hM hr0 hc0 ⊢
   have HR := hid hr0; have HM := hid hM; have Hn := hid hn; clear hr0 hM hn; (try clear hV)
   have H := al2 w (jI_ id m u b c z s me o a l (.slice A0 n c0)) (jI_ 0 0 0 0 0 0 0 0 0 0 0 (.slice none 0 0))
   have H0 := hid H.1; have H1 := hid H.2.1; have HB0 := hid H.2.2; clear H
   obtain ⟨t0, t1, t2, t3, t4, t5, t6, t7, t8, t9, t10, t11⟩ := cz12 H0.out
   have hge : w.heap.size <= w.heap.size + 1 := by omega
   go_enter Try.func64, Try.ntmps64
   go_wp2_with first
    | (go_at_call 105; with_reducible refine (HM.out _ (Kd.C_below HR.out HB0.out)).mono ?_; rintro e w1 ⟨rfl, hb1⟩; have hs := hb1.size; rw [sz2] at hs; have HB1 := hid (jc_ HB0.out hb1); have K1 := hid (jb_ H0.out hb1); have G1 := hid (jb_ H1.out hb1); clear hb1; have q0 : w1.heap.size ≠ w.heap.size := (by omega); have q0p : w.heap.size ≠ w1.heap.size := (by omega); have q1 : w1.heap.size ≠ w.heap.size + 1 := (by omega); have q1p : w.heap.size + 1 ≠ w1.heap.size := (by omega); obtain ⟨k0, k1, k2, k3, k4, k5, k6, k7, k8, k9, k10, k11⟩ := cz12 K1.out; obtain ⟨kf0, kf1, kf2, kf3, kf4, kf5, kf6, kf7, kf8, kf9, kf10, kf11⟩ := fz12 K1.out; obtain ⟨ad, ea, u0, u1, u2⟩ := kn_ (Kd.C_below HR.out HB1.out) i i0 i1; rw [<- HXX.out] at u0 u1 u2; subst ea; have Xa := hid (ju_ w1 (zoO 0 wp gen)); have Ka := hid (ja_ K1.out (zoO 0 wp gen)); have Ga := hid (ja_ G1.out (zoO 0 wp gen)); have HBa := hid (jg_ HB1.out (zoO 0 wp gen)); obtain ⟨xa0, xa1, xa2, xa3, xa4, xa5, xa6, xa7, xa8, xa9, xa10, xa11⟩ := cz12 Ka.out; obtain ⟨ya0, ya1, ya2, ya3, ya4, ya5, ya6, ya7, ya8, ya9, ya10, ya11⟩ := cz12 Ga.out; obtain ⟨yfa0, yfa1, yfa2, yfa3, yfa4, yfa5, yfa6, yfa7, yfa8, yfa9, yfa10, yfa11⟩ := fz12 Ga.out; obtain ⟨ra0, ra1, ra2⟩ := cz3 Xa.out; obtain ⟨rfa0, rfa1, rfa2⟩ := fz3 Xa.out)
   refine bodyPost_ret (jj_ rfl _ _ (w.heap.size + 1) 35 #[.int .i64 id, .int .i64 m, .int .i64 u, .int .i64 b, .int .i64 c, .int .i64 z, .int .i64 s, .int .i64 me, .int .i64 o, .int .i64 a, .int .i64 l, .slice (some ad) n c0] (0, 0) _ rfl (ko_ Ga.out) Try.underlying35 rfl (by kernel_rfl)) rfl ?_
   exact ⟨_, rfl, .inr ⟨congrArg some HSF.out, rfl⟩, bl12 HBa.out hge⟩
  ·
   have s0b : (st == 0) = false := beq_eq_false_iff_ne.mpr s0
   by_cases s4 : 1099511627776 <= gen
   ·
    have hv : V = (none, 4) := by rw [hV, if_neg (by simp), if_neg s0, if_pos s4]
    subst hv
    have sb : (gen == 1099511627776) = true := beq_iff_eq.mpr (by omega)
    have HS4 := hid s4; clear s4 hz
    rw [<- hn] at hM hr0 hc0 ⊢
    have HR := hid hr0; have HM := hid hM; have Hn := hid hn; clear hr0 hM hn; (try clear hV)
    have H := al2 w (jI_ id m u b c z s me o a l (.slice A0 n c0)) (jI_ 0 0 0 0 0 0 0 0 0 0 0 (.slice none 0 0))
    have H0 := hid H.1; have H1 := hid H.2.1; have HB0 := hid H.2.2; clear H
    obtain ⟨t0, t1, t2, t3, t4, t5, t6, t7, t8, t9, t10, t11⟩ := cz12 H0.out
    have hge : w.heap.size <= w.heap.size + 1 := by omega
    go_enter Try.func64, Try.ntmps64
    go_wp2_with first
     | (go_at_call 105; with_reducible refine (HM.out _ (Kd.C_below HR.out HB0.out)).mono ?_; rintro e w1 ⟨rfl, hb1⟩; have hs := hb1.size; rw [sz2] at hs; have HB1 := hid (jc_ HB0.out hb1); have K1 := hid (jb_ H0.out hb1); have G1 := hid (jb_ H1.out hb1); clear hb1; have q0 : w1.heap.size ≠ w.heap.size := (by omega); have q0p : w.heap.size ≠ w1.heap.size := (by omega); have q1 : w1.heap.size ≠ w.heap.size + 1 := (by omega); have q1p : w.heap.size + 1 ≠ w1.heap.size := (by omega); obtain ⟨k0, k1, k2, k3, k4, k5, k6, k7, k8, k9, k10, k11⟩ := cz12 K1.out; obtain ⟨kf0, kf1, kf2, kf3, kf4, kf5, kf6, kf7, kf8, kf9, kf10, kf11⟩ := fz12 K1.out; obtain ⟨ad, ea, u0, u1, u2⟩ := kn_ (Kd.C_below HR.out HB1.out) i i0 i1; rw [<- HXX.out] at u0 u1 u2; subst ea; have Xa := hid (ju_ w1 (zoO st wp gen)); have Ka := hid (ja_ K1.out (zoO st wp gen)); have Ga := hid (ja_ G1.out (zoO st wp gen)); have HBa := hid (jg_ HB1.out (zoO st wp gen)); obtain ⟨xa0, xa1, xa2, xa3, xa4, xa5, xa6, xa7, xa8, xa9, xa10, xa11⟩ := cz12 Ka.out; obtain ⟨ya0, ya1, ya2, ya3, ya4, ya5, ya6, ya7, ya8, ya9, ya10, ya11⟩ := cz12 Ga.out; obtain ⟨yfa0, yfa1, yfa2, yfa3, yfa4, yfa5, yfa6, yfa7, yfa8, yfa9, yfa10, yfa11⟩ := fz12 Ga.out; obtain ⟨ra0, ra1, ra2⟩ := cz3 Xa.out; obtain ⟨rfa0, rfa1, rfa2⟩ := fz3 Xa.out)
    refine bodyPost_ret (jj_ rfl _ _ (w.heap.size + 1) 35 #[.int .i64 0, .int .i64 0, .int .i64 0, .int .i64 0, .int .i64 0, .int .i64 0, .int .i64 0, .int .i64 0, .int .i64 0, .int .i64 0, .int .i64 0, .slice none 0 0] (0, 0) _ rfl (ko_ Ga.out) Try.underlying35 rfl (by kernel_rfl)) rfl ?_
    exact ⟨_, rfl, .inl (.inl ⟨rfl, rfl⟩), bl12 HBa.out hge⟩
   ·
    have hv : V = (some (L.set i.toNat ⟨0, 0, wrap64 (gen + 1)⟩), 0) := by rw [hV, if_neg (by simp), if_neg s0, if_neg s4]
    subst hv
    have sb : (gen == 1099511627776) = false := beq_eq_false_iff_ne.mpr (by omega)
    clear s4 hz
    rw [<- hn] at hM hr0 hc0 ⊢
    have HR := hid hr0; have HM := hid hM; have Hn := hid hn; clear hr0 hM hn; (try clear hV)
    have H := al2 w (jI_ id m u b c z s me o a l (.slice A0 n c0)) (jI_ 0 0 0 0 0 0 0 0 0 0 0 (.slice none 0 0))
    have H0 := hid H.1; have H1 := hid H.2.1; have HB0 := hid H.2.2; clear H
    obtain ⟨t0, t1, t2, t3, t4, t5, t6, t7, t8, t9, t10, t11⟩ := cz12 H0.out
    have hge : w.heap.size <= w.heap.size + 1 := by omega
    go_enter Try.func64, Try.ntmps64
    go_wp2_with first
     | (go_at_call 105; with_reducible refine (HM.out _ (Kd.C_below HR.out HB0.out)).mono ?_; rintro e w1 ⟨rfl, hb1⟩; have hs := hb1.size; rw [sz2] at hs; have HB1 := hid (jc_ HB0.out hb1); have K1 := hid (jb_ H0.out hb1); have G1 := hid (jb_ H1.out hb1); clear hb1; have q0 : w1.heap.size ≠ w.heap.size := (by omega); have q0p : w.heap.size ≠ w1.heap.size := (by omega); have q1 : w1.heap.size ≠ w.heap.size + 1 := (by omega); have q1p : w.heap.size + 1 ≠ w1.heap.size := (by omega); obtain ⟨k0, k1, k2, k3, k4, k5, k6, k7, k8, k9, k10, k11⟩ := cz12 K1.out; obtain ⟨kf0, kf1, kf2, kf3, kf4, kf5, kf6, kf7, kf8, kf9, kf10, kf11⟩ := fz12 K1.out; obtain ⟨ad, ea, u0, u1, u2⟩ := kn_ (Kd.C_below HR.out HB1.out) i i0 i1; rw [<- HXX.out] at u0 u1 u2; subst ea; have Xa := hid (ju_ w1 (zoO st wp gen)); have Ka := hid (ja_ K1.out (zoO st wp gen)); have Ga := hid (ja_ G1.out (zoO st wp gen)); have HBa := hid (jg_ HB1.out (zoO st wp gen)); obtain ⟨xa0, xa1, xa2, xa3, xa4, xa5, xa6, xa7, xa8, xa9, xa10, xa11⟩ := cz12 Ka.out; obtain ⟨ya0, ya1, ya2, ya3, ya4, ya5, ya6, ya7, ya8, ya9, ya10, ya11⟩ := cz12 Ga.out; obtain ⟨yfa0, yfa1, yfa2, yfa3, yfa4, yfa5, yfa6, yfa7, yfa8, yfa9, yfa10, yfa11⟩ := fz12 Ga.out; obtain ⟨ra0, ra1, ra2⟩ := cz3 Xa.out; obtain ⟨rfa0, rfa1, rfa2⟩ := fz3 Xa.out)
     | (go_at_call 86; refine (HW.out ⟨0, 0, wrap64 (gen + 1)⟩ _ (Kd.C_below HR.out HBa.out)).mono ?_; rintro e w2 ⟨v, rfl, hR2, hb2⟩; obtain ⟨A2, c2, rfl⟩ := Kd.R_slice hR2; simp only [List.length_set] at hR2; have G3 := hid (jb_ Ga.out hb2); have HB3 := hid (jc_ HBa.out hb2); have HR2 := hid (Kd.R_lower hR2 HBa.out.size); clear hR2 hb2; obtain ⟨z0, z1, z2, z3, z4, z5, z6, z7, z8, z9, z10, z11⟩ := cz12 G3.out; obtain ⟨zf0, zf1, zf2, zf3, zf4, zf5, zf6, zf7, zf8, zf9, zf10, zf11⟩ := fz12 G3.out)
    refine bodyPost_ret (jj_ rfl _ _ (w.heap.size + 1) 35 #[.int .i64 id, .int .i64 m, .int .i64 u, .int .i64 b, .int .i64 c, .int .i64 z, .int .i64 s, .int .i64 me, .int .i64 o, .int .i64 a, .int .i64 l, .slice A2 _ c2] (0, 0) _ rfl (ko_ G3.out) Try.underlying35 rfl (by kernel_rfl)) rfl ?_
    exact ⟨_, rfl, .inl (.inr ⟨_, _, rfl, rfl, R12 HR2.out G3.out (by decide)⟩), bl12 HB3.out hge⟩
 ·
  have hv : V = (none, e0) := by rw [hV, if_pos he]
  subst hv
  have eb : (e0 == 0) = false := beq_eq_false_iff_ne.mpr he
  clear hok
  rw [<- hn] at hM hr0 hc0 ⊢
  have HR := hid hr0; have HM := hid hM; have Hn := hid hn; clear hr0 hM hn; (try clear hV)
  have H := al2 w (jI_ id m u b c z s me o a l (.slice A0 n c0)) (jI_ 0 0 0 0 0 0 0 0 0 0 0 (.slice none 0 0))
  have H0 := hid H.1; have H1 := hid H.2.1; have HB0 := hid H.2.2; clear H
  obtain ⟨t0, t1, t2, t3, t4, t5, t6, t7, t8, t9, t10, t11⟩ := cz12 H0.out
  have hge : w.heap.size <= w.heap.size + 1 := by omega
  go_enter Try.func64, Try.ntmps64
  go_wp2_with first
   | (go_at_call 105; with_reducible refine (HM.out _ (Kd.C_below HR.out HB0.out)).mono ?_; rintro e w1 ⟨rfl, hb1⟩; have HB1 := hid (jc_ HB0.out hb1); have K1 := hid (jb_ H0.out hb1); have G1 := hid (jb_ H1.out hb1); clear hb1; obtain ⟨k0, k1, k2, k3, k4, k5, k6, k7, k8, k9, k10, k11⟩ := cz12 K1.out)
   | (go_at_call 105; with_reducible refine (HM.out _ (Kd.C_below HR.out HB1.out)).mono ?_; rintro e w2 ⟨rfl, hb2⟩; have HB2 := hid (jc_ HB1.out hb2); have G2 := hid (jb_ G1.out hb2); clear hb2; obtain ⟨g0, g1, g2, g3, g4, g5, g6, g7, g8, g9, g10, g11⟩ := cz12 G2.out; obtain ⟨gf0, gf1, gf2, gf3, gf4, gf5, gf6, gf7, gf8, gf9, gf10, gf11⟩ := fz12 G2.out)
  refine bodyPost_ret (jj_ rfl _ _ (w.heap.size + 1) 35 #[.int .i64 0, .int .i64 0, .int .i64 0, .int .i64 0, .int .i64 0, .int .i64 0, .int .i64 0, .int .i64 0, .int .i64 0, .int .i64 0, .int .i64 0, .slice none 0 0] (0, 0) _ rfl (ko_ G2.out) Try.underlying35 rfl (by kernel_rfl)) rfl ?_
  exact ⟨_, rfl, .inl (.inl ⟨rfl, rfl⟩), bl12 HB2.out hge⟩
end Go.Proofs.Ytgckcaoncjhgbaa
