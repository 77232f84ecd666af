/- judge.cut, Rest; bytes.Equal. -/
/- revetmentlaw29.code. -/
import Derived.WalkKit
import Derived.WalkSpells
import Derived.WalkLawsBesides
import Derived.Lib.Hide
import Derived.Test.YtgckcaoncjhgbaaFGw
import Derived.Test.YtgckcaoncjhgbaaFMa
import Derived.Test.YtgckcaoncjhgbaaPLx4
namespace Go.Proofs.Ytgckcaoncjhgbaa
open Go.RowKit Go.Proofs.Ytgckcaoncjhgbaa.PL Go.Proofs.YtgckcaoncjhgbaaW.PrintWords Go.Proofs.YtgckcaoncjhgbaaW.PrintLast
set_option linter.unusedVariables false
set_option linter.unusedSimpArgs false
attribute [local go_sem] List.getElem?_toArray List.getElem?_cons_succ List.getElem?_cons_zero mL tL cL xL rL oL
-- conf_Size.calls
theorem mdf_lt {base g : Nat} {W : World} {x0 y0 q0 x y q : Value} {D N : Mdl} (h : MD base W x0 y0 q0 D x y q N) (hg : W.heap.size <= g) : (x = x0 /\ N.L = D.L) \/ x.ownBlock ≠ some g := by
 rcases h.1 with h | h
 · exact .inl h
 · exact .inr (fun e => by have := Kd.R_lt h g e; omega)
theorem mdf_set {base g : Nat} {W w' : World} {x0 y0 q0 x y q : Value} {D N : Mdl} {ys : List Value} {cs : Array Value} (hw : w' = W.setCells g 0 ys) (h : MD base W x0 y0 q0 D x y q N) (hn : (x = x0 /\ N.L = D.L) \/ x.ownBlock ≠ some g) (hb : W.heap[g]? = some (.cells cs 59 (0, 0))) : MD base w' x0 y0 q0 D x y q N := by
 refine ⟨?_, RowD_st hw h.2.1 hb (fun q hq => ?_), RowD_st hw h.2.2 hb (fun q hq => ?_)⟩
 ·
  rcases h.1 with h1 | h1
  · exact .inl h1
  rcases hn with h2 | h2
  · exact .inl h2
  ·
   obtain ⟨_, inner, ho, hr⟩ := h1
   have h1 : Kd.R k59 59 W base (fun k => k ≠ g) x N.L := ⟨fun k hk e => h2 (by rw [hk, e]), inner, ho, hr.imp_ (fun _ _ h => by rw [k59_openM h]; exact k59_mkM _ _ _ _)⟩
   exact .inr (Kd.R_mono (st_RF hw h1 (fun k hk => hk)) (fun _ _ => trivial))
 ·
  have h2 : q ∈ [9] := hq
  rw [List.mem_singleton.1 h2]; decide
 ·
  have h2 : q ∈ [3] := hq
  rw [List.mem_singleton.1 h2]; decide
section
variable {P : Program} {ops : Array Oper} {rest : List Oper} {o : Oper} {a : Act} {Q : Exit -> Act -> World -> Prop} {w W : World} {bs : List Blk} {fs : List Fct} {q : Nat} {cs : Array Value} {v : Operand}
theorem bhz (H : Hid (Pk w W bs fs)) (N : Nat) (cs : List Value) (t : Nat) (hd : o.dst = some N := by rfl) (hgd : o.guard = none := by rfl)
  (hrun : (execOp a.eval o).run P W = .ok (.value (.pointer (some ⟨W.heap.size, 0, none⟩))) (W.alloc (.cells cs.toArray t (0, 0))) := by first | (go_simp; done) | (go_simp; rfl))
  (h : ∀ g w1, W.heap.size <= g -> Hid (Pk w w1 (⟨g, t, cs.toArray⟩ :: bs) fs) -> wpList P ops Q rest (a.put o.dst (.pointer (some ⟨g, 0, none⟩))) w1) : wpList P ops Q (o :: rest) a W :=
 bx N cs.toArray t hd hgd hrun (fun g hg w1 hx hb => h g w1 hg (pg H hx hb hg))
theorem shz (H : Hid (Pk w W bs fs)) (k t p g : Nat) (ys : List Value) (hF : ∀ w', w' = W.setCells g 0 ys -> ∀ f ∈ fs, f.P w') (hk : bs[k]? = some ⟨g, q, cs⟩ := by rfl) (ho : o.op = .store t (.tmp p) v := by rfl) (hgd : o.guard = none := by rfl) (hN : o.dst = none := by rfl) (hrun : (∀ i, W.frozen? ⟨g, i, none⟩ = false) -> (execOp a.eval o).run P W = .ok .skip (W.setCells g 0 ys) := by (intro f_; first | (go_simp; done) | (go_simp; rfl))) (hl : ys.length = cs.size := by rfl) (h : ∀ w', Hid (Pk w w' (bs.set k ⟨g, q, ys.toArray⟩) fs) -> wpList P ops Q rest a w') : wpList P ops Q (o :: rest) a W :=
 sv t p g 0 ys ho hgd hN (hrun (H.out.froz k hk)) (fun w' hw => h w' (by
  have h1 : Pk w w' (bs.set k ⟨g, q, ys.toArray⟩) [] := (Pk.mk H.out.below H.out.blk H.out.ne (by simp) : Pk w W bs []).putw k hk hw hl rfl
  exact Lib.hid ⟨h1.below, h1.blk, h1.ne, hF w' hw⟩))
end
def mineB (is : Bool) (i z_ E : Int) : Bool := is && (i == z_) && (E == 0)
def zoneOf (D : Mdl) (z_ : Int) : S59 := if 0 <= z_ /\ z_ < (D.T.length : Int) then rd_T59 D.L z_ else z59
def cutB (Z : Int) (x : S59) : Bool := (x.f0 == 3) && decide (x.f1 < Z)
def restB (Z : Int) (x : S59) (n : Int) : Int := if cutB Z x = true then 3 else if n = Z then 3 else if n = 0 then 0 else 2
def T_judge_cut_1 : Bool × List (List Nat × List Nat) := (true, [([], []), ([0], [0]), ([1], [1]), ([2], [2]), ([3], [3]), ([4, 3], [3, 4]), ([3], [3]), ([6, 3, 3], [3, 6]), ([5, 7, 3], [3, 5, 7]), ([3, 8], [3, 8]), ([9, 7, 0, 1, 2, 3, 4, 5, 6, 7, 8, 9], [9])])
theorem tab_judge_cut_1 : rtab .any (opsOf Try.f91 1) = T_judge_cut_1 := by kernel_rfl
theorem bits_judge_cut_1 : waitsOk T_judge_cut_1.2 [0, 1, 3, 7, 15, 31, 15, 79, 255, 511, 1023] = true := by kernel_rfl
set_option maxHeartbeats 4000000 in
set_option maxRecDepth 100000 in
theorem cut_a (id m u b c z s me o a l : Int) (hk : checkC id m u b c z s me o a l = 0) (st wp gen : Int) (w : World) (h3 : st = 3) : Calls Try.prog 91 #[.agg #[.int .i64 id, .int .i64 m, .int .i64 u, .int .i64 b, .int .i64 c, .int .i64 z, .int .i64 s, .int .i64 me, .int .i64 o, .int .i64 a, .int .i64 l], .agg #[.int .i64 st, .int .i64 wp, .int .i64 gen]] w fun e w' => e = .returned (.bool (decide (wp < sizeC m u b c z s me o a l))) /\ Below w.heap.size w w' := by
 have hs := fun W => conf_Size.calls id m u b c z s me o a l _ W (Geo.size_eq id m u b c z s me o a l hk)
 generalize sizeC m u b c z s me o a l = Z at hs ⊢
 have HS := Lib.hid hs; clear hs hk
 (try have bh3 : (st == 3) = true := beq_iff_eq.mpr h3)
 (try have bh3 : (st == 3) = false := beq_eq_false_iff_ne.mpr h3)
 (try have dh3 : (st != 3) = false := bne_eq_false_iff_eq.mpr h3)
 (try have dh3 : (st != 3) = true := bne_iff_ne.mpr h3)
 (try have Hh3 := Lib.hid h3)
 (try clear h3)
 have H := Lib.hid (Pk.start w)
 go_enter Try.func91, Try.ntmps91
 go_wp2_with first
  | (apply bh H 2 (cL id m u b c z s me o a l) 23; clear H; intro gC W1 H; obtain ⟨-, cC⟩ := n1_ H)
  | (apply bh H 3 (oL st wp gen) 59; clear H cC; intro gZ W2 H; obtain ⟨-, cZ, cC⟩ := n2_ H)
 clear cZ cC
 refine start_ (n := 11) (S := fun W => bW W gC (cL id m u b c z s me o a l) /\ bW W gZ (oL st wp gen)) (ds := []) (bq 11 0) (by kernel_rfl) rfl (by kernel_rfl) ⟨H.out.drew.cell 1 rfl, H.out.drew.cell 0 rfl⟩ (fun hHeld => ?_)
 refine with_tabW tab_judge_cut_1 bits_judge_cut_1 (fun HT_ HW_ => ?_)
 have zH := H.out.drew
 generalize W2.drew = W3 at zH hHeld ⊢
 replace H := Lib.hid zH; clear zH
 apply pu 0 5 (bq 11 1) HT_
 apply tw 1 6 (bq 11 3) HT_ HW_ hHeld
 apply pu 2 7 (bq 11 7) HT_
 apply pu 3 8 (bq 11 15) HT_
 apply pu 4 9 (bq 11 31) HT_
 apply tw 5 10 (bq 11 63) HT_ HW_ hHeld
 apply tw 6 11 (bq 11 127) HT_ HW_ hHeld
 apply on 7 (some 12) (bq 11 255) HT_; intro K hK
 refine gs Try.func68 #[.agg #[.int .i64 id, .int .i64 m, .int .i64 u, .int .i64 b, .int .i64 c, .int .i64 z, .int .i64 s, .int .i64 me, .int .i64 o, .int .i64 a, .int .i64 l]] ?_
 refine (HS.out _).mono ?_
 rintro e W4 ⟨rfl, hb⟩
 refine ⟨_, rfl, ?_⟩
 replace H := pc H hb
 clear hb
 refine hK.out _ _ ⟨H.out.cell 1 rfl, H.out.cell 0 rfl⟩ (fun hHeld => ?_)
 clear hK K
 apply nm 0
 apply pu 8 13 (bq 11 511) HT_
 apply pu 9 14 (bq 11 1023) HT_
 apply pu 10 4 (bq 11 2047) HT_
 refine done_ (done_of HT_.out (by kernel_rfl)) ?_
 obtain ⟨-, cZ, cC⟩ := n2_ H
 go_wp2
 go_ret
 refine ⟨?_, H.out.below⟩
 rfl
set_option maxHeartbeats 4000000 in
set_option maxRecDepth 100000 in
theorem cut_b (id m u b c z s me o a l : Int) (hk : checkC id m u b c z s me o a l = 0) (st wp gen : Int) (w : World) (h3 : ¬ st = 3) : Calls Try.prog 91 #[.agg #[.int .i64 id, .int .i64 m, .int .i64 u, .int .i64 b, .int .i64 c, .int .i64 z, .int .i64 s, .int .i64 me, .int .i64 o, .int .i64 a, .int .i64 l], .agg #[.int .i64 st, .int .i64 wp, .int .i64 gen]] w fun e w' => e = .returned (.bool false) /\ Below w.heap.size w w' := by
 have hs := fun W => conf_Size.calls id m u b c z s me o a l _ W (Geo.size_eq id m u b c z s me o a l hk)
 generalize sizeC m u b c z s me o a l = Z at hs ⊢
 have HS := Lib.hid hs; clear hs hk
 (try have bh3 : (st == 3) = true := beq_iff_eq.mpr h3)
 (try have bh3 : (st == 3) = false := beq_eq_false_iff_ne.mpr h3)
 (try have dh3 : (st != 3) = false := bne_eq_false_iff_eq.mpr h3)
 (try have dh3 : (st != 3) = true := bne_iff_ne.mpr h3)
 (try have Hh3 := Lib.hid h3)
 (try clear h3)
 have H := Lib.hid (Pk.start w)
 go_enter Try.func91, Try.ntmps91
 go_wp2_with first
  | (apply bh H 2 (cL id m u b c z s me o a l) 23; clear H; intro gC W1 H; obtain ⟨-, cC⟩ := n1_ H)
  | (apply bh H 3 (oL st wp gen) 59; clear H cC; intro gZ W2 H; obtain ⟨-, cZ, cC⟩ := n2_ H)
 clear cZ cC
 refine start_ (n := 11) (S := fun W => bW W gC (cL id m u b c z s me o a l) /\ bW W gZ (oL st wp gen)) (ds := []) (bq 11 0) (by kernel_rfl) rfl (by kernel_rfl) ⟨H.out.drew.cell 1 rfl, H.out.drew.cell 0 rfl⟩ (fun hHeld => ?_)
 refine with_tabW tab_judge_cut_1 bits_judge_cut_1 (fun HT_ HW_ => ?_)
 have zH := H.out.drew
 generalize W2.drew = W3 at zH hHeld ⊢
 replace H := Lib.hid zH; clear zH
 apply pu 0 5 (bq 11 1) HT_
 apply tw 1 6 (bq 11 3) HT_ HW_ hHeld
 apply pu 2 7 (bq 11 7) HT_
 apply pu 3 8 (bq 11 15) HT_
 apply po 4 9 (bq 11 31) HT_
 apply po 5 10 (bq 11 63) HT_
 apply po 6 11 (bq 11 127) HT_
 apply po 7 12 (bq 11 255) HT_
 apply po 8 13 (bq 11 511) HT_
 apply pu 9 14 (bq 11 1023) HT_
 apply pu 10 4 (bq 11 2047) HT_
 refine done_ (done_of HT_.out (by kernel_rfl)) ?_
 obtain ⟨-, cZ, cC⟩ := n2_ H
 go_wp2
 go_ret
 refine ⟨?_, H.out.below⟩
 rfl
theorem cut_any (id m u b c z s me o a l : Int) (hk : checkC id m u b c z s me o a l = 0) (st wp gen : Int) (w : World) : Calls Try.prog 91 #[.agg #[.int .i64 id, .int .i64 m, .int .i64 u, .int .i64 b, .int .i64 c, .int .i64 z, .int .i64 s, .int .i64 me, .int .i64 o, .int .i64 a, .int .i64 l], .agg #[.int .i64 st, .int .i64 wp, .int .i64 gen]] w fun e w' => e = .returned (.bool (cutB (sizeC m u b c z s me o a l) ⟨st, wp, gen⟩)) /\ Below w.heap.size w w' := by
 by_cases h3 : st = 3
 ·
  have e : cutB (sizeC m u b c z s me o a l) ⟨st, wp, gen⟩ = decide (wp < sizeC m u b c z s me o a l) := by unfold cutB; simp [h3]
  rw [e]; exact cut_a id m u b c z s me o a l hk st wp gen w h3
 ·
  have e : cutB (sizeC m u b c z s me o a l) ⟨st, wp, gen⟩ = false := by unfold cutB; simp [h3]
  rw [e]; exact cut_b id m u b c z s me o a l hk st wp gen w h3
set_option maxHeartbeats 4000000 in
set_option maxRecDepth 100000 in
theorem jrest_any (id m u b c z s me o a l : Int) (hk : checkC id m u b c z s me o a l = 0) (x : S59) (n : Int) (w : World) : Calls Try.prog 42 #[.agg #[.int .i64 id, .int .i64 m, .int .i64 u, .int .i64 b, .int .i64 c, .int .i64 z, .int .i64 s, .int .i64 me, .int .i64 o, .int .i64 a, .int .i64 l], zoV x, .int .i64 n] w fun e w' => e = .returned (.int .i64 (restB (sizeC m u b c z s me o a l) x n)) /\ Below w.heap.size w w' := by
 obtain ⟨st, wp, gen⟩ := x
 show Calls _ _ #[_, .agg #[.int .i64 st, .int .i64 wp, .int .i64 gen], _] _ _
 have hs := fun W => conf_Size.calls id m u b c z s me o a l _ W (Geo.size_eq id m u b c z s me o a l hk)
 have hcu := fun W => cut_any id m u b c z s me o a l hk st wp gen W
 obtain ⟨V, hV⟩ : ∃ V, V = restB (sizeC m u b c z s me o a l) ⟨st, wp, gen⟩ n := ⟨_, rfl⟩
 rw [<- hV]; unfold restB at hV
 generalize cutB (sizeC m u b c z s me o a l) ⟨st, wp, gen⟩ = cb at hcu hV
 generalize sizeC m u b c z s me o a l = Z at hs hV
 have hcs : (cb = true /\ V = 3) \/ (cb = false /\ n = Z /\ V = 3) \/ (cb = false /\ ¬ n = Z /\ n = 0 /\ V = 0) \/ (cb = false /\ ¬ n = Z /\ ¬ n = 0 /\ V = 2) := by
  rw [hV]; cases cb
  ·
   by_cases h1 : n = Z
   · simp [h1]
   ·
    by_cases h2 : n = 0
    · subst h2; simp [h1]
    · simp [h1, h2]
  · simp
 have HS := Lib.hid hs; have HCU := Lib.hid hcu; clear hs hcu hk hV
 rcases hcs with ⟨rfl, hv⟩ | ⟨rfl, h1, hv⟩ | ⟨rfl, h1, h2, hv⟩ | ⟨rfl, h1, h2, hv⟩ <;> (
  have HV := Lib.hid hv; clear hv
  (try have bh1 : (n == Z) = true := beq_iff_eq.mpr h1)
  (try have bh1 : (n == Z) = false := beq_eq_false_iff_ne.mpr h1)
  (try have dh1 : (n != Z) = false := bne_eq_false_iff_eq.mpr h1)
  (try have dh1 : (n != Z) = true := bne_iff_ne.mpr h1)
  (try have Hh1 := Lib.hid h1)
  (try clear h1)
  (try have bh2 : (n == 0) = true := beq_iff_eq.mpr h2)
  (try have bh2 : (n == 0) = false := beq_eq_false_iff_ne.mpr h2)
  (try have dh2 : (n != 0) = false := bne_eq_false_iff_eq.mpr h2)
  (try have dh2 : (n != 0) = true := bne_iff_ne.mpr h2)
  (try have Hh2 := Lib.hid h2)
  (try clear h2)
  have H := Lib.hid (Pk.start w)
  go_enter Try.func42, Try.ntmps42
  go_wp2_with first
   | (apply bh H 3 (cL id m u b c z s me o a l) 23; clear H; intro gC W1 H; obtain ⟨-, cC⟩ := n1_ H)
   | (apply bh H 4 (oL st wp gen) 59; clear H cC; intro gZ W2 H; obtain ⟨-, cZ, cC⟩ := n2_ H)
   | (go_at_call 91; refine (HCU.out _).mono ?_; rintro e W3 ⟨rfl, hb⟩; clear cZ cC; replace H := pc H hb; clear hb; obtain ⟨-, cZ, cC⟩ := n2_ H)
   | (go_at_call 68; refine (HS.out _).mono ?_; rintro e W4 ⟨rfl, hb⟩; clear cZ cC; replace H := pc H hb; clear hb; obtain ⟨-, cZ, cC⟩ := n2_ H)
  go_ret
  refine ⟨?_, H.out.below⟩
  rw [HV.out]; rfl)
theorem equal_any (v1 v2 : Value) (s1 s2 : ByteArray) (w : World) (h1 : (convert 57 9 v1).run Try.prog w = .ok (.string s1) w) (h2 : (convert 57 9 v2).run Try.prog w = .ok (.string s2) w) : Calls Try.prog 90 #[v1, v2] w fun e w' => e = .returned (.bool (s1.toList == s2.toList)) /\ Below w.heap.size w w' := by
 go_enter Try.func90, Try.ntmps90
 go_wp2
 go_ret
 exact ⟨rfl, Below.refl _ _⟩
end Go.Proofs.Ytgckcaoncjhgbaa
namespace Go.Proofs.Ytgckcaoncjhgbaa
open Go.RowKit Go.Proofs.Ytgckcaoncjhgbaa.PL Go.Proofs.YtgckcaoncjhgbaaW.PrintWords Go.Proofs.YtgckcaoncjhgbaaW.PrintLast
set_option linter.unusedVariables false
set_option linter.unusedSimpArgs false
attribute [local go_sem] List.getElem?_toArray List.getElem?_cons_succ List.getElem?_cons_zero mL tL cL xL rL oL
theorem code29_any (x : Int) (W : World) : Calls Try.prog 88 #[.int .i64 x] W fun e w' => e = .returned (.int .i64 x) /\ Below W.heap.size W w' := by
 go_enter Try.func88, Try.ntmps88
 go_wp2
 go_ret
 exact ⟨rfl, Below.refl _ _⟩
end Go.Proofs.Ytgckcaoncjhgbaa
