/- What Check of package conf answers at any settings. No condition. -/
import Derived.Test.YtgckcaoncjhgbaaConfChk0
namespace Go.Proofs.Ytgckcaoncjhgbaa
open Go.RowKit
set_option linter.unusedVariables false
set_option linter.unusedSimpArgs false
theorem saneC_in {m u b c z s me o a l : Int} (h_m : inB m 3 16 = true) (h_u : inB u 1 64 = true) (h_b : inB b 1 4096 = true) (h_c : inB c 1 4096 = true) (h_z : inB z 1 64 = true) (h_s : inB s 1 64 = true) (h_me : inB me 3 64 = true) (h_a : inB a 1 z = true) (h_o : inB o 1 a = true) (h_l : inB l (a + s + me) 64 = true) : jZ_ m u b c z s me o a l = true := by
 have := jo_ h_m; have := jo_ h_u; have := jo_ h_b; have := jo_ h_c; have := jo_ h_z; have := jo_ h_s; have := jo_ h_me; have := jo_ h_a; have := jo_ h_o; have := jo_ h_l
 exact saneC_mk (by omega)
theorem zT_ (id m u b c z s me o a l : Int) (w : World) :
  Calls Try.prog 52 #[.agg #[.int .i64 id, .int .i64 m, .int .i64 u, .int .i64 b, .int .i64 c, .int .i64 z, .int .i64 s, .int .i64 me, .int .i64 o, .int .i64 a, .int .i64 l]] w fun e w' => e = .returned (.int .i64 (jn_ id m u b c z s me o a l)) /\ Below w.heap.size w w' := by
 cases h_id : inB id 0 1099511627776 with
 | false =>
  have hv : jn_ id m u b c z s me o a l = 1 := by simp [jn_, okC, *]
  exact (chk_00 id m u b c z s me o a l w h_id).mono (by rintro e w1 ⟨rfl, hb⟩; exact ⟨jQ_ hv.symm, hb⟩)
 | true =>
  cases h_m : inB m 3 16 with
  | false =>
   have hv : jn_ id m u b c z s me o a l = 1 := by simp [jn_, okC, *]
   exact (chk_01 id m u b c z s me o a l w h_id h_m).mono (by rintro e w1 ⟨rfl, hb⟩; exact ⟨jQ_ hv.symm, hb⟩)
  | true =>
   cases h_u : inB u 1 64 with
   | false =>
    have hv : jn_ id m u b c z s me o a l = 1 := by simp [jn_, okC, *]
    exact (chk_02 id m u b c z s me o a l w h_id h_m h_u).mono (by rintro e w1 ⟨rfl, hb⟩; exact ⟨jQ_ hv.symm, hb⟩)
   | true =>
    cases h_b : inB b 1 4096 with
    | false =>
     have hv : jn_ id m u b c z s me o a l = 1 := by simp [jn_, okC, *]
     exact (chk_10 id m u b c z s me o a l w h_id h_m h_u h_b).mono (by rintro e w1 ⟨rfl, hb⟩; exact ⟨jQ_ hv.symm, hb⟩)
    | true =>
     cases h_c : inB c 1 4096 with
     | false =>
      have hv : jn_ id m u b c z s me o a l = 1 := by simp [jn_, okC, *]
      exact (chk_11 id m u b c z s me o a l w h_id h_m h_u h_b h_c).mono (by rintro e w1 ⟨rfl, hb⟩; exact ⟨jQ_ hv.symm, hb⟩)
     | true =>
      cases h_rem : (c % u != 0) with
      | true =>
       have hv : jn_ id m u b c z s me o a l = 1 := by simp [jn_, okC, h_rem, *]
       exact (chk_12 id m u b c z s me o a l w h_id h_m h_u h_b h_c h_rem).mono (by rintro e w1 ⟨rfl, hb⟩; exact ⟨jQ_ hv.symm, hb⟩)
      | false =>
       cases h_z : inB z 1 64 with
       | false =>
        have hv : jn_ id m u b c z s me o a l = 1 := by simp [jn_, okC, *]
        exact (chk_20 id m u b c z s me o a l w h_id h_m h_u h_b h_c h_rem h_z).mono (by rintro e w1 ⟨rfl, hb⟩; exact ⟨jQ_ hv.symm, hb⟩)
       | true =>
        cases h_s : inB s 1 64 with
        | false =>
         have hv : jn_ id m u b c z s me o a l = 1 := by simp [jn_, okC, *]
         exact (chk_21 id m u b c z s me o a l w h_id h_m h_u h_b h_c h_rem h_z h_s).mono (by rintro e w1 ⟨rfl, hb⟩; exact ⟨jQ_ hv.symm, hb⟩)
        | true =>
         cases h_me : inB me 3 64 with
         | false =>
          have hv : jn_ id m u b c z s me o a l = 1 := by simp [jn_, okC, *]
          exact (chk_22 id m u b c z s me o a l w h_id h_m h_u h_b h_c h_rem h_z h_s h_me).mono (by rintro e w1 ⟨rfl, hb⟩; exact ⟨jQ_ hv.symm, hb⟩)
         | true =>
          cases hs : jZ_ m u b c z s me o a l with
          | true =>
           by_cases h_all : me + z + s > 64
           ·
            have hd : ¬ (me + z + s <= 64) := by omega
            have hv : jn_ id m u b c z s me o a l = 1 := by simp [jn_, okC, *]
            exact (chk_s23 id m u b c z s me o a l w h_id h_m h_u h_b h_c h_rem h_z h_s h_me hs h_all).mono (by rintro e w1 ⟨rfl, hb⟩; exact ⟨jQ_ hv.symm, hb⟩)
           ·
            have h_all : me + z + s <= 64 := by omega
            cases h_a : inB a 1 z with
            | false =>
             have hv : jn_ id m u b c z s me o a l = 1 := by simp [jn_, okC, *]
             exact (chk_s30 id m u b c z s me o a l w h_id h_m h_u h_b h_c h_rem h_z h_s h_me hs h_all h_a).mono (by rintro e w1 ⟨rfl, hb⟩; exact ⟨jQ_ hv.symm, hb⟩)
            | true =>
             cases h_o : inB o 1 a with
             | false =>
              have hv : jn_ id m u b c z s me o a l = 1 := by simp [jn_, okC, *]
              exact (chk_s31 id m u b c z s me o a l w h_id h_m h_u h_b h_c h_rem h_z h_s h_me hs h_all h_a h_o).mono (by rintro e w1 ⟨rfl, hb⟩; exact ⟨jQ_ hv.symm, hb⟩)
             | true =>
              cases h_l : inB l (a + s + me) 64 with
              | false =>
               have hv : jn_ id m u b c z s me o a l = 1 := by simp [jn_, okC, *]
               exact (chk_s32 id m u b c z s me o a l w h_id h_m h_u h_b h_c h_rem h_z h_s h_me hs h_all h_a h_o h_l).mono (by rintro e w1 ⟨rfl, hb⟩; exact ⟨jQ_ hv.symm, hb⟩)
              | true =>
               by_cases h_room : yt_ m u b c z s me o a l > c
               ·
                have hv : jn_ id m u b c z s me o a l = 17 := by simp [jn_, okC, h_room, *]
                exact (chk_room1 id m u b c z s me o a l w h_id h_m h_u h_b h_c h_rem h_z h_s h_me hs h_all h_a h_o h_l h_room).mono (by rintro e w1 ⟨rfl, hb⟩; exact ⟨jQ_ hv.symm, hb⟩)
               ·
                have hv : jn_ id m u b c z s me o a l = 0 := by simp [jn_, okC, h_room, *]
                have h_room : yt_ m u b c z s me o a l <= c := by omega
                exact (chk_room0 id m u b c z s me o a l w h_id h_m h_u h_b h_c h_rem h_z h_s h_me hs h_all h_a h_o h_l h_room).mono (by rintro e w1 ⟨rfl, hb⟩; exact ⟨jQ_ hv.symm, hb⟩)
          | false =>
           cases h_a : inB a 1 z with
           | false =>
            have hv : jn_ id m u b c z s me o a l = 1 := by simp [jn_, okC, *]
            exact (chk_n30 id m u b c z s me o a l w h_id h_m h_u h_b h_c h_rem h_z h_s h_me hs h_a).mono (by rintro e w1 ⟨rfl, hb⟩; exact ⟨jQ_ hv.symm, hb⟩)
           | true =>
            cases h_o : inB o 1 a with
            | false =>
             have hv : jn_ id m u b c z s me o a l = 1 := by simp [jn_, okC, *]
             exact (chk_n31 id m u b c z s me o a l w h_id h_m h_u h_b h_c h_rem h_z h_s h_me hs h_a h_o).mono (by rintro e w1 ⟨rfl, hb⟩; exact ⟨jQ_ hv.symm, hb⟩)
            | true =>
             cases h_l : inB l (a + s + me) 64 with
             | false =>
              have hv : jn_ id m u b c z s me o a l = 1 := by simp [jn_, okC, *]
              exact (chk_n32 id m u b c z s me o a l w h_id h_m h_u h_b h_c h_rem h_z h_s h_me hs h_a h_o h_l).mono (by rintro e w1 ⟨rfl, hb⟩; exact ⟨jQ_ hv.symm, hb⟩)
             | true =>
              have := saneC_in h_m h_u h_b h_c h_z h_s h_me h_a h_o h_l
              rw [hs] at this; exact absurd this (by decide)
end Go.Proofs.Ytgckcaoncjhgbaa
