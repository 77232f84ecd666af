/- What the functions of package conf answer at any settings: Row, Stripes, Data, All, Room (0 where a number is out of 1 to 2^20), and Check. No condition. -/
/- What Room and Check of package conf answer at any settings. No condition. -/
import Derived.Test.YtgckcaoncjhgbaaProg
import Derived.Test.YtgckcaoncjhgbaaConfLaw
import Derived.WalkSpells
import Derived.WalkLawsBesides
import Derived.StillTailTactics
import Derived.BigQuiet
import Derived.Lib.Hide
import Derived.Deep.RegionWith
set_option maxHeartbeats 1000000
set_option maxRecDepth 100000
open Go.Lib (hid)
namespace Go.Proofs.Ytgckcaoncjhgbaa
open Go.RowKit
set_option linter.unusedVariables false
set_option linter.unusedSimpArgs false
def ptrsOf (g : Nat) : Array Value := #[.pointer (some ⟨g, 1, none⟩), .pointer (some ⟨g, 2, none⟩), .pointer (some ⟨g, 3, none⟩), .pointer (some ⟨g, 4, none⟩), .pointer (some ⟨g, 5, none⟩), .pointer (some ⟨g, 6, none⟩), .pointer (some ⟨g, 7, none⟩), .pointer (some ⟨g, 8, none⟩), .pointer (some ⟨g, 9, none⟩), .pointer (some ⟨g, 10, none⟩)]
theorem vx_ (g : Nat) (w : World) :
  Calls Try.prog 126 #[.pointer (some ⟨g, 0, none⟩)] w fun e w' => e = .returned (.slice (some ⟨w.heap.size, 0, none⟩) 10 10) /\ (w.alloc (.cells (ptrsOf g) 176)).drew = w' := by
 go_enter Try.func126, Try.ntmps126
 go_wp2
 go_still_tail 30, (by kernel_rfl)
 change wpList _ _ _ _ _ w.drew
 have hz : w.drew.heap.size = w.heap.size := rfl
 have hfin : ((w.drew).alloc (.cells (ptrsOf g) 176)) = (w.alloc (.cells (ptrsOf g) 176)).drew := rfl
 generalize w.drew = w2 at *
 have hfin' := hid hfin; clear hfin
 have hz' := hid hz; clear hz
 go_wp2
 go_ret
 exact ⟨by show Ending.returned (.slice (some ⟨w2.heap.size, 0, none⟩) 10 10) = _; rw [hz'.out], hfin'.out.symm⟩
theorem xU_ {a b : Bool} (h : a = b) : Ending.returned (.bool a) = .returned (.bool b) := by rw [h]
theorem jQ_ {k : IntKind} {a b : Int} (h : a = b) : Ending.returned (.int k a) = .returned (.int k b) := by rw [h]
theorem xS_ (b g : Nat) (ns : List Int) (w : World) (hn : ns.length = 10)
  (hp : ∀ k : Nat, k < 10 -> w.cell? ⟨b, k, none⟩ = some (.pointer (some ⟨g, k + 1, none⟩)))
  (hc : ∀ k : Nat, k < 10 -> w.cell? ⟨g, k + 1, none⟩ = some (.int .i64 (ns.getD k 0))) :
  Calls Try.prog 125 #[.slice (some ⟨b, 0, none⟩) 10 10] w fun e w' => e = .returned (.bool (ns.all okN)) /\ w = w' := by
 have Hn := hid hn; clear hn
 have Hp := hid hp; clear hp
 have Hc := hid hc; clear hc
 go_enter Try.func125, Try.ntmps125
 go_wp2
 go_loop [7, 4] (fun i _ => ∃ k : Nat, k <= 10 /\ i = .int .i64 k /\ (ns.take k).all okN = true) (fun i _ => 10 - (intOf i).toNat)
 case atStart => exact ⟨0, by omega, rfl, by simp⟩
 case round =>
  obtain ⟨k, hk, rfl, hall⟩ := hrel
  have Hall := hid hall; clear hall
  by_cases hlt : k < 10
  ·
   have h1 := Hp.out k hlt
   have h2 := Hc.out k hlt
   have h2' : ns[k]?.getD 0 = ns.getD k 0 := by simp
   have H2' := hid h2'; clear h2'
   go_wp2
   ·
    go_ret
    have h : ns[k]?.getD 0 < 1 \/ 1048576 < ns[k]?.getD 0 := by assumption
    exact ⟨xU_ (all_no okN ns k (by rw [Hn.out]; exact hlt) (okN_no (by rw [<- H2'.out]; exact h))).symm, rfl⟩
   ·
    go_round
    case rel =>
     have h : 1 <= ns[k]?.getD 0 /\ ns[k]?.getD 0 <= 1048576 := by assumption
     exact ⟨k + 1, by omega, by go_num, all_snoc okN ns k (by rw [Hn.out]; exact hlt) Hall.out (okN_yes (by rw [<- H2'.out]; exact h))⟩
    case measure => simp [intOf]; omega
   ·
    go_ret
    have h : ns[k]?.getD 0 < 1 := by assumption
    exact ⟨xU_ (all_no okN ns k (by rw [Hn.out]; exact hlt) (okN_no (by rw [<- H2'.out]; exact .inl h))).symm, rfl⟩
  ·
   have hk10 : 10 <= k := by omega
   go_wp2
   go_ret
   have h := Hall.out
   rw [List.take_of_length_le (by rw [Hn.out]; omega)] at h
   exact ⟨xU_ h.symm, rfl⟩
def kD_ (id m u b c z s me o a l : Int) : Array Value := #[.int .i64 id, .int .i64 m, .int .i64 u, .int .i64 b, .int .i64 c, .int .i64 z, .int .i64 s, .int .i64 me, .int .i64 o, .int .i64 a, .int .i64 l]
theorem xq_ (w0 : World) (g k b : Nat) (hb : w0.heap.size = b) (hk : k < 10) : ((w0.alloc (.cells (ptrsOf g) 176)).drew).cell? ⟨b, k, none⟩ = some (.pointer (some ⟨g, k + 1, none⟩)) := by
 subst hb
 match k, hk with
 | 0, _ | 1, _ | 2, _ | 3, _ | 4, _ | 5, _ | 6, _ | 7, _ | 8, _ | 9, _ => simp [ptrsOf, go_sem]
theorem xs_ (w : World) (O : Obj) (id m u b c z s me o a l : Int) (k : Nat) (hk : k < 10) : (((w.alloc (.cells #[.int .i64 id, .int .i64 m, .int .i64 u, .int .i64 b, .int .i64 c, .int .i64 z, .int .i64 s, .int .i64 me, .int .i64 o, .int .i64 a, .int .i64 l] 23)).alloc O).drew).cell? ⟨w.heap.size, k + 1, none⟩ = some (.int .i64 ([m, u, b, c, z, s, me, o, a, l].getD k 0)) := by
 match k, hk with
 | 0, _ | 1, _ | 2, _ | 3, _ | 4, _ | 5, _ | 6, _ | 7, _ | 8, _ | 9, _ => simp [go_sem]
theorem of_no (id m u b c z s me o a l : Int) (w : World) (hs : jZ_ m u b c z s me o a l = false) (v : Value) :
  Calls Try.prog 117 #[.agg (kD_ id m u b c z s me o a l), v] w fun e w' => e = .returned (.int .i64 0) /\ Below w.heap.size w w' := by
 have Hs := hid hs; clear hs
 unfold kD_
 go_enter Try.func117, Try.ntmps117
 go_wp2_with fail
 refine (vx_ _ _).mono ?_
 rintro e w1 ⟨rfl, rfl⟩
 go_wp2_with fail
 refine (xS_ _ w.heap.size [m, u, b, c, z, s, me, o, a, l] _ rfl ?hp ?hc).mono ?_
 case hp => exact fun k hk => xq_ (w.alloc _) _ k _ (by simp) hk
 case hc => exact fun k hk => xs_ w _ id m u b c z s me o a l k hk
 rintro e w1 ⟨rfl, rfl⟩
 rw [show ([m, u, b, c, z, s, me, o, a, l].all okN) = false from Hs.out]
 go_wp2_with fail
 go_ret
 exact ⟨rfl, (((Below.refl _ w).alloc (Nat.le_refl _) _).alloc (by simp) _).drew⟩
theorem of_yes_row (id m u b c z s me o a l : Int) (w : World) (hs : jZ_ m u b c z s me o a l = true) (p : Value) (r : Int)
  (hk : ∀ w1, Below w.heap.size w w1 -> Calls Try.prog 121 #[p] w1 fun e w' => e = .returned (.int .i64 r) /\ w1 = w') :
  Calls Try.prog 117 #[.agg (kD_ id m u b c z s me o a l), .func (Fn.func 121) #[] #[p]] w fun e w' => e = .returned (.int .i64 r) /\ Below w.heap.size w w' := by
 have Hs := hid hs; clear hs
 have Hk := hid hk; clear hk
 unfold kD_
 go_enter Try.func117, Try.ntmps117
 go_wp2_with fail
 refine (vx_ _ _).mono ?_
 rintro e w1 ⟨rfl, rfl⟩
 go_wp2_with fail
 refine (xS_ _ w.heap.size [m, u, b, c, z, s, me, o, a, l] _ rfl ?hp ?hc).mono ?_
 case hp => exact fun k hk => xq_ (w.alloc _) _ k _ (by simp) hk
 case hc => exact fun k hk => xs_ w _ id m u b c z s me o a l k hk
 rintro e w1 ⟨rfl, rfl⟩
 rw [show ([m, u, b, c, z, s, me, o, a, l].all okN) = true from Hs.out]
 go_wp2_with fail
 refine (Hk.out _ ?hb).mono ?_
 case hb => exact (((Below.refl _ w).alloc (Nat.le_refl _) _).alloc (by simp) _).drew
 rintro e w1 ⟨rfl, rfl⟩
 go_wp2
 go_ret
 exact ⟨rfl, (((Below.refl _ w).alloc (Nat.le_refl _) _).alloc (by simp) _).drew⟩
theorem row1_any (g : Nat) (m u : Int) (w : World) (hm1 : 1 <= m) (hm2 : m <= 1048576) (hu1 : 1 <= u) (hu2 : u <= 1048576) (cm : w.cell? ⟨g, 1, none⟩ = some (.int .i64 m)) (cu : w.cell? ⟨g, 2, none⟩ = some (.int .i64 u)) :
  Calls Try.prog 121 #[.pointer (some ⟨g, 0, none⟩)] w fun e w' => e = .returned (.int .i64 ((m - 1) * u)) /\ w = w' := by
 have k1 : 0 <= (m - 1) * u := Int.mul_nonneg (by omega) (by omega)
 have k2 : (m - 1) * u <= 1048576 * 1048576 := Int.mul_le_mul (by omega) hu2 (by omega) (by omega)
 go_enter Try.func121, Try.ntmps121
 go_wp2
 go_ret
 exact ⟨rfl, rfl⟩
theorem row_any (id m u b c z s me o a l : Int) (w : World) :
  Calls Try.prog 107 #[.agg #[.int .i64 id, .int .i64 m, .int .i64 u, .int .i64 b, .int .i64 c, .int .i64 z, .int .i64 s, .int .i64 me, .int .i64 o, .int .i64 a, .int .i64 l]] w fun e w' => e = .returned (.int .i64 (rowC m u b c z s me o a l)) /\ Below w.heap.size w w' := by
 cases hs : jZ_ m u b c z s me o a l with
 | true =>
  obtain ⟨⟨hm1, hm2⟩, ⟨hu1, hu2⟩, ⟨hb1, hb2⟩, ⟨hc1, hc2⟩, ⟨hz1, hz2⟩, ⟨hs1, hs2⟩, ⟨hme1, hme2⟩, ⟨ho1, ho2⟩, ⟨ha1, ha2⟩, ⟨hl1, hl2⟩⟩ := jY_ hs
  have hv : rowC m u b c z s me o a l = (m - 1) * u := by rw [rowC, if_pos hs]
  rw [hv]
  clear hv
  have Hs := hid hs; clear hs
  go_enter Try.func107, Try.ntmps107
  go_wp2_with fail
  refine (of_yes_row id m u b c z s me o a l _ Hs.out _ ((m - 1) * u) ?hk).mono ?_
  case hk =>
   intro w1 hb
   exact row1_any w.heap.size m u w1 hm1 hm2 hu1 hu2 ((hb.cell (p := ⟨w.heap.size, 1, none⟩) (by simp)).trans (by simp [go_sem])) ((hb.cell (p := ⟨w.heap.size, 2, none⟩) (by simp)).trans (by simp [go_sem]))
  rintro e w1 ⟨rfl, hb⟩
  go_wp2
  go_ret
  exact ⟨rfl, ((Below.refl _ w).alloc (Nat.le_refl _) _).trans (hb.mono (by simp))⟩
 | false =>
  have hv : rowC m u b c z s me o a l = 0 := by rw [rowC, if_neg (by rw [hs]; decide)]
  rw [hv]
  clear hv
  have Hs := hid hs; clear hs
  go_enter Try.func107, Try.ntmps107
  go_wp2_with fail
  refine (of_no id m u b c z s me o a l _ Hs.out _).mono ?_
  rintro e w1 ⟨rfl, hb⟩
  go_wp2
  go_ret
  exact ⟨rfl, ((Below.refl _ w).alloc (Nat.le_refl _) _).trans (hb.mono (by simp))⟩
theorem qg_ (id m u b c z s me o a l : Int) (w : World) (hs : jZ_ m u b c z s me o a l = true) (p : Value) (r : Int)
  (hk : ∀ w1, Below w.heap.size w w1 -> Calls Try.prog 120 #[p] w1 fun e w' => e = .returned (.int .i64 r) /\ w1 = w') :
  Calls Try.prog 117 #[.agg (kD_ id m u b c z s me o a l), .func (Fn.func 120) #[] #[p]] w fun e w' => e = .returned (.int .i64 r) /\ Below w.heap.size w w' := by
 have Hs := hid hs; clear hs
 have Hk := hid hk; clear hk
 unfold kD_
 go_enter Try.func117, Try.ntmps117
 go_wp2_with fail
 refine (vx_ _ _).mono ?_
 rintro e w1 ⟨rfl, rfl⟩
 go_wp2_with fail
 refine (xS_ _ w.heap.size [m, u, b, c, z, s, me, o, a, l] _ rfl ?hp ?hc).mono ?_
 case hp => exact fun k hk => xq_ (w.alloc _) _ k _ (by simp) hk
 case hc => exact fun k hk => xs_ w _ id m u b c z s me o a l k hk
 rintro e w1 ⟨rfl, rfl⟩
 rw [show ([m, u, b, c, z, s, me, o, a, l].all okN) = true from Hs.out]
 go_wp2_with fail
 refine (Hk.out _ ?hb).mono ?_
 case hb => exact (((Below.refl _ w).alloc (Nat.le_refl _) _).alloc (by simp) _).drew
 rintro e w1 ⟨rfl, rfl⟩
 go_wp2
 go_ret
 exact ⟨rfl, (((Below.refl _ w).alloc (Nat.le_refl _) _).alloc (by simp) _).drew⟩
theorem stripes1_any (g : Nat) (c u : Int) (w : World) (hc1 : 1 <= c) (hc2 : c <= 1048576) (hu1 : 1 <= u) (hu2 : u <= 1048576) (cc : w.cell? ⟨g, 4, none⟩ = some (.int .i64 c)) (cu : w.cell? ⟨g, 2, none⟩ = some (.int .i64 u)) :
  Calls Try.prog 120 #[.pointer (some ⟨g, 0, none⟩)] w fun e w' => e = .returned (.int .i64 (c / u)) /\ w = w' := by
 go_enter Try.func120, Try.ntmps120
 go_wp2
 go_ret
 exact ⟨rfl, rfl⟩
theorem zz_ (id m u b c z s me o a l : Int) (w : World) :
  Calls Try.prog 106 #[.agg #[.int .i64 id, .int .i64 m, .int .i64 u, .int .i64 b, .int .i64 c, .int .i64 z, .int .i64 s, .int .i64 me, .int .i64 o, .int .i64 a, .int .i64 l]] w fun e w' => e = .returned (.int .i64 (vH_ m u b c z s me o a l)) /\ Below w.heap.size w w' := by
 cases hs : jZ_ m u b c z s me o a l with
 | true =>
  obtain ⟨⟨hm1, hm2⟩, ⟨hu1, hu2⟩, ⟨hb1, hb2⟩, ⟨hc1, hc2⟩, ⟨hz1, hz2⟩, ⟨hs1, hs2⟩, ⟨hme1, hme2⟩, ⟨ho1, ho2⟩, ⟨ha1, ha2⟩, ⟨hl1, hl2⟩⟩ := jY_ hs
  have hv : vH_ m u b c z s me o a l = c / u := by rw [vH_, if_pos hs]
  rw [hv]
  clear hv
  have Hs := hid hs; clear hs
  go_enter Try.func106, Try.ntmps106
  go_wp2_with fail
  refine (qg_ id m u b c z s me o a l _ Hs.out _ (c / u) ?hk).mono ?_
  case hk =>
   intro w1 hb
   exact stripes1_any w.heap.size c u w1 hc1 hc2 hu1 hu2 ((hb.cell (p := ⟨w.heap.size, 4, none⟩) (by simp)).trans (by simp [go_sem])) ((hb.cell (p := ⟨w.heap.size, 2, none⟩) (by simp)).trans (by simp [go_sem]))
  rintro e w1 ⟨rfl, hb⟩
  go_wp2
  go_ret
  exact ⟨rfl, ((Below.refl _ w).alloc (Nat.le_refl _) _).trans (hb.mono (by simp))⟩
 | false =>
  have hv : vH_ m u b c z s me o a l = 0 := by rw [vH_, if_neg (by rw [hs]; decide)]
  rw [hv]
  clear hv
  have Hs := hid hs; clear hs
  go_enter Try.func106, Try.ntmps106
  go_wp2_with fail
  refine (of_no id m u b c z s me o a l _ Hs.out _).mono ?_
  rintro e w1 ⟨rfl, hb⟩
  go_wp2
  go_ret
  exact ⟨rfl, ((Below.refl _ w).alloc (Nat.le_refl _) _).trans (hb.mono (by simp))⟩
theorem of_yes_data (id m u b c z s me o a l : Int) (w : World) (hs : jZ_ m u b c z s me o a l = true) (p : Value) (r : Int)
  (hk : ∀ w1, Below w.heap.size w w1 -> Calls Try.prog 130 #[p] w1 fun e w' => e = .returned (.int .i64 r) /\ w1 = w') :
  Calls Try.prog 117 #[.agg (kD_ id m u b c z s me o a l), .func (Fn.func 130) #[] #[p]] w fun e w' => e = .returned (.int .i64 r) /\ Below w.heap.size w w' := by
 have Hs := hid hs; clear hs
 have Hk := hid hk; clear hk
 unfold kD_
 go_enter Try.func117, Try.ntmps117
 go_wp2_with fail
 refine (vx_ _ _).mono ?_
 rintro e w1 ⟨rfl, rfl⟩
 go_wp2_with fail
 refine (xS_ _ w.heap.size [m, u, b, c, z, s, me, o, a, l] _ rfl ?hp ?hc).mono ?_
 case hp => exact fun k hk => xq_ (w.alloc _) _ k _ (by simp) hk
 case hc => exact fun k hk => xs_ w _ id m u b c z s me o a l k hk
 rintro e w1 ⟨rfl, rfl⟩
 rw [show ([m, u, b, c, z, s, me, o, a, l].all okN) = true from Hs.out]
 go_wp2_with fail
 refine (Hk.out _ ?hb).mono ?_
 case hb => exact (((Below.refl _ w).alloc (Nat.le_refl _) _).alloc (by simp) _).drew
 rintro e w1 ⟨rfl, rfl⟩
 go_wp2
 go_ret
 exact ⟨rfl, (((Below.refl _ w).alloc (Nat.le_refl _) _).alloc (by simp) _).drew⟩
theorem data1_any (g : Nat) (m : Int) (w : World) (hm1 : 1 <= m) (hm2 : m <= 1048576) (cm : w.cell? ⟨g, 1, none⟩ = some (.int .i64 m)) :
  Calls Try.prog 130 #[.pointer (some ⟨g, 0, none⟩)] w fun e w' => e = .returned (.int .i64 (m - 1)) /\ w = w' := by
 go_enter Try.func130, Try.ntmps130
 go_wp2
 go_ret
 exact ⟨rfl, rfl⟩
theorem data_any (id m u b c z s me o a l : Int) (w : World) :
  Calls Try.prog 129 #[.agg #[.int .i64 id, .int .i64 m, .int .i64 u, .int .i64 b, .int .i64 c, .int .i64 z, .int .i64 s, .int .i64 me, .int .i64 o, .int .i64 a, .int .i64 l]] w fun e w' => e = .returned (.int .i64 (dataC m u b c z s me o a l)) /\ Below w.heap.size w w' := by
 cases hs : jZ_ m u b c z s me o a l with
 | true =>
  obtain ⟨⟨hm1, hm2⟩, ⟨hu1, hu2⟩, ⟨hb1, hb2⟩, ⟨hc1, hc2⟩, ⟨hz1, hz2⟩, ⟨hs1, hs2⟩, ⟨hme1, hme2⟩, ⟨ho1, ho2⟩, ⟨ha1, ha2⟩, ⟨hl1, hl2⟩⟩ := jY_ hs
  have hv : dataC m u b c z s me o a l = m - 1 := by rw [dataC, if_pos hs]
  rw [hv]
  clear hv
  have Hs := hid hs; clear hs
  go_enter Try.func129, Try.ntmps129
  go_wp2_with fail
  refine (of_yes_data id m u b c z s me o a l _ Hs.out _ (m - 1) ?hk).mono ?_
  case hk =>
   intro w1 hb
   exact data1_any w.heap.size m w1 hm1 hm2 ((hb.cell (p := ⟨w.heap.size, 1, none⟩) (by simp)).trans (by simp [go_sem]))
  rintro e w1 ⟨rfl, hb⟩
  go_wp2
  go_ret
  exact ⟨rfl, ((Below.refl _ w).alloc (Nat.le_refl _) _).trans (hb.mono (by simp))⟩
 | false =>
  have hv : dataC m u b c z s me o a l = 0 := by rw [dataC, if_neg (by rw [hs]; decide)]
  rw [hv]
  clear hv
  have Hs := hid hs; clear hs
  go_enter Try.func129, Try.ntmps129
  go_wp2_with fail
  refine (of_no id m u b c z s me o a l _ Hs.out _).mono ?_
  rintro e w1 ⟨rfl, hb⟩
  go_wp2
  go_ret
  exact ⟨rfl, ((Below.refl _ w).alloc (Nat.le_refl _) _).trans (hb.mono (by simp))⟩
theorem of_yes_all (id m u b c z s me o a l : Int) (w : World) (hs : jZ_ m u b c z s me o a l = true) (p : Value) (r : Int)
  (hk : ∀ w1, Below w.heap.size w w1 -> Calls Try.prog 118 #[p] w1 fun e w' => e = .returned (.int .i64 r) /\ w1 = w') :
  Calls Try.prog 117 #[.agg (kD_ id m u b c z s me o a l), .func (Fn.func 118) #[] #[p]] w fun e w' => e = .returned (.int .i64 r) /\ Below w.heap.size w w' := by
 have Hs := hid hs; clear hs
 have Hk := hid hk; clear hk
 unfold kD_
 go_enter Try.func117, Try.ntmps117
 go_wp2_with fail
 refine (vx_ _ _).mono ?_
 rintro e w1 ⟨rfl, rfl⟩
 go_wp2_with fail
 refine (xS_ _ w.heap.size [m, u, b, c, z, s, me, o, a, l] _ rfl ?hp ?hc).mono ?_
 case hp => exact fun k hk => xq_ (w.alloc _) _ k _ (by simp) hk
 case hc => exact fun k hk => xs_ w _ id m u b c z s me o a l k hk
 rintro e w1 ⟨rfl, rfl⟩
 rw [show ([m, u, b, c, z, s, me, o, a, l].all okN) = true from Hs.out]
 go_wp2_with fail
 refine (Hk.out _ ?hb).mono ?_
 case hb => exact (((Below.refl _ w).alloc (Nat.le_refl _) _).alloc (by simp) _).drew
 rintro e w1 ⟨rfl, rfl⟩
 go_wp2
 go_ret
 exact ⟨rfl, (((Below.refl _ w).alloc (Nat.le_refl _) _).alloc (by simp) _).drew⟩
theorem all1_any (g : Nat) (me z s : Int) (w : World) (hme1 : 1 <= me) (hme2 : me <= 1048576) (hz1 : 1 <= z) (hz2 : z <= 1048576) (hs1 : 1 <= s) (hs2 : s <= 1048576) (cme : w.cell? ⟨g, 7, none⟩ = some (.int .i64 me)) (cz : w.cell? ⟨g, 5, none⟩ = some (.int .i64 z)) (cs : w.cell? ⟨g, 6, none⟩ = some (.int .i64 s)) :
  Calls Try.prog 118 #[.pointer (some ⟨g, 0, none⟩)] w fun e w' => e = .returned (.int .i64 (me + z + s)) /\ w = w' := by
 go_enter Try.func118, Try.ntmps118
 go_wp2
 go_ret
 exact ⟨rfl, rfl⟩
theorem xG_ (id m u b c z s me o a l : Int) (w : World) :
  Calls Try.prog 98 #[.agg #[.int .i64 id, .int .i64 m, .int .i64 u, .int .i64 b, .int .i64 c, .int .i64 z, .int .i64 s, .int .i64 me, .int .i64 o, .int .i64 a, .int .i64 l]] w fun e w' => e = .returned (.int .i64 (allC m u b c z s me o a l)) /\ Below w.heap.size w w' := by
 cases hs : jZ_ m u b c z s me o a l with
 | true =>
  obtain ⟨⟨hm1, hm2⟩, ⟨hu1, hu2⟩, ⟨hb1, hb2⟩, ⟨hc1, hc2⟩, ⟨hz1, hz2⟩, ⟨hs1, hs2⟩, ⟨hme1, hme2⟩, ⟨ho1, ho2⟩, ⟨ha1, ha2⟩, ⟨hl1, hl2⟩⟩ := jY_ hs
  have hv : allC m u b c z s me o a l = me + z + s := by rw [allC, if_pos hs]
  rw [hv]
  clear hv
  have Hs := hid hs; clear hs
  go_enter Try.func98, Try.ntmps98
  go_wp2_with fail
  refine (of_yes_all id m u b c z s me o a l _ Hs.out _ (me + z + s) ?hk).mono ?_
  case hk =>
   intro w1 hb
   exact all1_any w.heap.size me z s w1 hme1 hme2 hz1 hz2 hs1 hs2 ((hb.cell (p := ⟨w.heap.size, 7, none⟩) (by simp)).trans (by simp [go_sem])) ((hb.cell (p := ⟨w.heap.size, 5, none⟩) (by simp)).trans (by simp [go_sem])) ((hb.cell (p := ⟨w.heap.size, 6, none⟩) (by simp)).trans (by simp [go_sem]))
  rintro e w1 ⟨rfl, hb⟩
  go_wp2
  go_ret
  exact ⟨rfl, ((Below.refl _ w).alloc (Nat.le_refl _) _).trans (hb.mono (by simp))⟩
 | false =>
  have hv : allC m u b c z s me o a l = 0 := by rw [allC, if_neg (by rw [hs]; decide)]
  rw [hv]
  clear hv
  have Hs := hid hs; clear hs
  go_enter Try.func98, Try.ntmps98
  go_wp2_with fail
  refine (of_no id m u b c z s me o a l _ Hs.out _).mono ?_
  rintro e w1 ⟨rfl, hb⟩
  go_wp2
  go_ret
  exact ⟨rfl, ((Below.refl _ w).alloc (Nat.le_refl _) _).trans (hb.mono (by simp))⟩
theorem of_yes_room (id m u b c z s me o a l : Int) (w : World) (hs : jZ_ m u b c z s me o a l = true) (p : Value) (r : Int)
  (hk : ∀ w1, Below w.heap.size w w1 -> Calls Try.prog 119 #[p] w1 fun e w' => e = .returned (.int .i64 r) /\ w1 = w') :
  Calls Try.prog 117 #[.agg (kD_ id m u b c z s me o a l), .func (Fn.func 119) #[] #[p]] w fun e w' => e = .returned (.int .i64 r) /\ Below w.heap.size w w' := by
 have Hs := hid hs; clear hs
 have Hk := hid hk; clear hk
 unfold kD_
 go_enter Try.func117, Try.ntmps117
 go_wp2_with fail
 refine (vx_ _ _).mono ?_
 rintro e w1 ⟨rfl, rfl⟩
 go_wp2_with fail
 refine (xS_ _ w.heap.size [m, u, b, c, z, s, me, o, a, l] _ rfl ?hp ?hc).mono ?_
 case hp => exact fun k hk => xq_ (w.alloc _) _ k _ (by simp) hk
 case hc => exact fun k hk => xs_ w _ id m u b c z s me o a l k hk
 rintro e w1 ⟨rfl, rfl⟩
 rw [show ([m, u, b, c, z, s, me, o, a, l].all okN) = true from Hs.out]
 go_wp2_with fail
 refine (Hk.out _ ?hb).mono ?_
 case hb => exact (((Below.refl _ w).alloc (Nat.le_refl _) _).alloc (by simp) _).drew
 rintro e w1 ⟨rfl, rfl⟩
 go_wp2
 go_ret
 exact ⟨rfl, (((Below.refl _ w).alloc (Nat.le_refl _) _).alloc (by simp) _).drew⟩
theorem room1_any (g : Nat) (m u b z : Int) (w : World) (hm1 : 1 <= m) (hm2 : m <= 1048576) (hu1 : 1 <= u) (hu2 : u <= 1048576) (hb1 : 1 <= b) (hb2 : b <= 1048576) (hz1 : 1 <= z) (hz2 : z <= 1048576) (cm : w.cell? ⟨g, 1, none⟩ = some (.int .i64 m)) (cu : w.cell? ⟨g, 2, none⟩ = some (.int .i64 u)) (cb : w.cell? ⟨g, 3, none⟩ = some (.int .i64 b)) (cz : w.cell? ⟨g, 5, none⟩ = some (.int .i64 z)) :
  Calls Try.prog 119 #[.pointer (some ⟨g, 0, none⟩)] w fun e w' => e = .returned (.int .i64 ((zg_ m u b z + b - 1) / b + 2)) /\ w = w' := by
 have k1 : 0 <= (z + 1) * u := Int.mul_nonneg (by omega) (by omega)
 have k2 : (z + 1) * u <= 1048577 * 1048576 := Int.mul_le_mul (by omega) hu2 (by omega) (by omega)
 have k3 : 0 <= (z + 1) * u * b := Int.mul_nonneg k1 (by omega)
 have k4 : (z + 1) * u * b <= 1048577 * 1048576 * 1048576 := Int.mul_le_mul k2 hb2 (by omega) (by omega)
 have k5 : 0 <= (320 + 48 * z + 8 * m + (z + 1) * u * b + b - 1) / b := Int.ediv_nonneg (by omega) (by omega)
 have k6 : (320 + 48 * z + 8 * m + (z + 1) * u * b + b - 1) / b <= 320 + 48 * z + 8 * m + (z + 1) * u * b + b - 1 := Int.ediv_le_self _ (by omega)
 unfold zg_
 go_enter Try.func119, Try.ntmps119
 go_wp2
 go_ret
 exact ⟨rfl, rfl⟩
theorem room_any (id m u b c z s me o a l : Int) (w : World) :
  Calls Try.prog 99 #[.agg #[.int .i64 id, .int .i64 m, .int .i64 u, .int .i64 b, .int .i64 c, .int .i64 z, .int .i64 s, .int .i64 me, .int .i64 o, .int .i64 a, .int .i64 l]] w fun e w' => e = .returned (.int .i64 (yt_ m u b c z s me o a l)) /\ Below w.heap.size w w' := by
 cases hs : jZ_ m u b c z s me o a l with
 | true =>
  obtain ⟨⟨hm1, hm2⟩, ⟨hu1, hu2⟩, ⟨hb1, hb2⟩, ⟨hc1, hc2⟩, ⟨hz1, hz2⟩, ⟨hs1, hs2⟩, ⟨hme1, hme2⟩, ⟨ho1, ho2⟩, ⟨ha1, ha2⟩, ⟨hl1, hl2⟩⟩ := jY_ hs
  have hv : yt_ m u b c z s me o a l = (zg_ m u b z + b - 1) / b + 2 := by rw [yt_, if_pos hs]
  rw [hv]
  clear hv
  have Hs := hid hs; clear hs
  go_enter Try.func99, Try.ntmps99
  go_wp2_with fail
  refine (of_yes_room id m u b c z s me o a l _ Hs.out _ ((zg_ m u b z + b - 1) / b + 2) ?hk).mono ?_
  case hk =>
   intro w1 hb
   exact room1_any w.heap.size m u b z w1 hm1 hm2 hu1 hu2 hb1 hb2 hz1 hz2 ((hb.cell (p := ⟨w.heap.size, 1, none⟩) (by simp)).trans (by simp [go_sem])) ((hb.cell (p := ⟨w.heap.size, 2, none⟩) (by simp)).trans (by simp [go_sem])) ((hb.cell (p := ⟨w.heap.size, 3, none⟩) (by simp)).trans (by simp [go_sem])) ((hb.cell (p := ⟨w.heap.size, 5, none⟩) (by simp)).trans (by simp [go_sem]))
  rintro e w1 ⟨rfl, hb⟩
  go_wp2
  go_ret
  exact ⟨rfl, ((Below.refl _ w).alloc (Nat.le_refl _) _).trans (hb.mono (by simp))⟩
 | false =>
  have hv : yt_ m u b c z s me o a l = 0 := by rw [yt_, if_neg (by rw [hs]; decide)]
  rw [hv]
  clear hv
  have Hs := hid hs; clear hs
  go_enter Try.func99, Try.ntmps99
  go_wp2_with fail
  refine (of_no id m u b c z s me o a l _ Hs.out _).mono ?_
  rintro e w1 ⟨rfl, hb⟩
  go_wp2
  go_ret
  exact ⟨rfl, ((Below.refl _ w).alloc (Nat.le_refl _) _).trans (hb.mono (by simp))⟩
theorem jm_ (n lo hi : Int) (w : World) :
  Calls Try.prog 97 #[.int .i64 n, .int .i64 lo, .int .i64 hi] w fun e w' => e = .returned (.bool (inB n lo hi)) /\ w = w' := by
 by_cases h1 : lo <= n
 ·
  by_cases h2 : n <= hi
  ·
   have hv : inB n lo hi = true := by simp [inB, h1, h2]
   rw [hv]; clear hv
   go_enter Try.func97, Try.ntmps97
   go_wp2
   go_ret
   exact ⟨rfl, rfl⟩
  ·
   have hv : inB n lo hi = false := by simp [inB, h2]
   rw [hv]; clear hv
   go_enter Try.func97, Try.ntmps97
   go_wp2
   go_ret
   exact ⟨rfl, rfl⟩
 ·
  have hv : inB n lo hi = false := by simp [inB, h1]
  rw [hv]; clear hv
  go_enter Try.func97, Try.ntmps97
  go_wp2
  go_ret
  exact ⟨rfl, rfl⟩
theorem xF_ {W w1 : World} (hb : Below W.heap.size W w1) : (∀ b o, b < W.heap.size -> w1.cell? ⟨b, o, none⟩ = W.cell? ⟨b, o, none⟩) /\ (∀ b o, b < W.heap.size -> w1.frozen? ⟨b, o, none⟩ = W.frozen? ⟨b, o, none⟩) :=
 ⟨fun b o h => hb.cell (p := ⟨b, o, none⟩) h, fun b o h => hb.frozen (p := ⟨b, o, none⟩) h⟩
end Go.Proofs.Ytgckcaoncjhgbaa
