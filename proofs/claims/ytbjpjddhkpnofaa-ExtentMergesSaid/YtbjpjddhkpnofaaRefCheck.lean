/- What Check of the reference 07 answers at any settings: what Check of package conf answers. No condition. -/
import Derived.Test.YtbjpjddhkpnofaaRefChk0
namespace Go.Proofs.Ytbjpjddhkpnofaa
open Go.RowKit
set_option linter.unusedVariables false
set_option linter.unusedSimpArgs false
theorem rcheck_any (id m u b c z s me o a l : Int) (w : World) :
    Calls Try.prog 17 #[.agg #[.int .i64 id, .int .i64 m, .int .i64 u, .int .i64 b, .int .i64 c, .int .i64 z, .int .i64 s, .int .i64 me, .int .i64 o, .int .i64 a, .int .i64 l]] w fun e w' => e = .returned (.int .i64 (checkC id m u b c z s me o a l)) ∧ Below w.heap.size w w' := by
  by_cases h00 : id < 0
  · skip
    exact (rchk_00 id m u b c z s me o a l w h00).mono (by rintro e w1 ⟨rfl, hb⟩; exact ⟨ret_int (Eq.symm (by exact checkC_no (fun hk => by have := okC_bd hk; omega))), hb⟩)
  · have h00 : 0 ≤ id := by omega
    by_cases h01 : id > 1099511627776
    · skip
      exact (rchk_01 id m u b c z s me o a l w h00 h01).mono (by rintro e w1 ⟨rfl, hb⟩; exact ⟨ret_int (Eq.symm (by exact checkC_no (fun hk => by have := okC_bd hk; omega))), hb⟩)
    · have h01 : id ≤ 1099511627776 := by omega
      cases h02 : saneC m u b c z s me o a l with
      | false =>
        exact (rchk_02 id m u b c z s me o a l w h00 h01 h02).mono (by rintro e w1 ⟨rfl, hb⟩; exact ⟨ret_int (Eq.symm (by exact checkC_insane h02)), hb⟩)
      | true =>
        by_cases h10 : m < 3
        · skip
          exact (rchk_10 id m u b c z s me o a l w h00 h01 h02 h10).mono (by rintro e w1 ⟨rfl, hb⟩; exact ⟨ret_int (Eq.symm (by exact checkC_no (fun hk => by have := okC_bd hk; omega))), hb⟩)
        · have h10 : 3 ≤ m := by omega
          by_cases h11 : m > 16
          · skip
            exact (rchk_11 id m u b c z s me o a l w h00 h01 h02 h10 h11).mono (by rintro e w1 ⟨rfl, hb⟩; exact ⟨ret_int (Eq.symm (by exact checkC_no (fun hk => by have := okC_bd hk; omega))), hb⟩)
          · have h11 : m ≤ 16 := by omega
            by_cases h12 : u > 64
            · skip
              exact (rchk_12 id m u b c z s me o a l w h00 h01 h02 h10 h11 h12).mono (by rintro e w1 ⟨rfl, hb⟩; exact ⟨ret_int (Eq.symm (by exact checkC_no (fun hk => by have := okC_bd hk; omega))), hb⟩)
            · have h12 : u ≤ 64 := by omega
              by_cases h13 : b > 4096
              · skip
                exact (rchk_13 id m u b c z s me o a l w h00 h01 h02 h10 h11 h12 h13).mono (by rintro e w1 ⟨rfl, hb⟩; exact ⟨ret_int (Eq.symm (by exact checkC_no (fun hk => by have := okC_bd hk; omega))), hb⟩)
              · have h13 : b ≤ 4096 := by omega
                by_cases h14 : c > 4096
                · skip
                  exact (rchk_14 id m u b c z s me o a l w h00 h01 h02 h10 h11 h12 h13 h14).mono (by rintro e w1 ⟨rfl, hb⟩; exact ⟨ret_int (Eq.symm (by exact checkC_no (fun hk => by have := okC_bd hk; omega))), hb⟩)
                · have h14 : c ≤ 4096 := by omega
                  by_cases h15 : c % u > 0
                  · skip
                    exact (rchk_15 id m u b c z s me o a l w h00 h01 h02 h10 h11 h12 h13 h14 h15).mono (by rintro e w1 ⟨rfl, hb⟩; exact ⟨ret_int (Eq.symm (by exact checkC_no (fun hk => by have := okC_bd hk; omega))), hb⟩)
                  · have h15 : c % u ≤ 0 := by omega
                    by_cases h20 : me < 3
                    · skip
                      exact (rchk_20 id m u b c z s me o a l w h00 h01 h02 h10 h11 h12 h13 h14 h15 h20).mono (by rintro e w1 ⟨rfl, hb⟩; exact ⟨ret_int (Eq.symm (by exact checkC_no (fun hk => by have := okC_bd hk; omega))), hb⟩)
                    · have h20 : 3 ≤ me := by omega
                      by_cases h21 : me + z + s > 64
                      · skip
                        exact (rchk_21 id m u b c z s me o a l w h00 h01 h02 h10 h11 h12 h13 h14 h15 h20 h21).mono (by rintro e w1 ⟨rfl, hb⟩; exact ⟨ret_int (Eq.symm (by exact checkC_no (fun hk => by have := okC_bd hk; omega))), hb⟩)
                      · have h21 : me + z + s ≤ 64 := by omega
                        by_cases h22 : o > a
                        · skip
                          exact (rchk_22 id m u b c z s me o a l w h00 h01 h02 h10 h11 h12 h13 h14 h15 h20 h21 h22).mono (by rintro e w1 ⟨rfl, hb⟩; exact ⟨ret_int (Eq.symm (by exact checkC_no (fun hk => by have := okC_bd hk; omega))), hb⟩)
                        · have h22 : o ≤ a := by omega
                          by_cases h23 : a > z
                          · skip
                            exact (rchk_23 id m u b c z s me o a l w h00 h01 h02 h10 h11 h12 h13 h14 h15 h20 h21 h22 h23).mono (by rintro e w1 ⟨rfl, hb⟩; exact ⟨ret_int (Eq.symm (by exact checkC_no (fun hk => by have := okC_bd hk; omega))), hb⟩)
                          · have h23 : a ≤ z := by omega
                            by_cases h30 : l < a + s + me
                            · skip
                              exact (rchk_30 id m u b c z s me o a l w h00 h01 h02 h10 h11 h12 h13 h14 h15 h20 h21 h22 h23 h30).mono (by rintro e w1 ⟨rfl, hb⟩; exact ⟨ret_int (Eq.symm (by exact checkC_no (fun hk => by have := okC_bd hk; omega))), hb⟩)
                            · have h30 : a + s + me ≤ l := by omega
                              by_cases h31 : l > 64
                              · skip
                                exact (rchk_31 id m u b c z s me o a l w h00 h01 h02 h10 h11 h12 h13 h14 h15 h20 h21 h22 h23 h30 h31).mono (by rintro e w1 ⟨rfl, hb⟩; exact ⟨ret_int (Eq.symm (by exact checkC_no (fun hk => by have := okC_bd hk; omega))), hb⟩)
                              · have h31 : l ≤ 64 := by omega
                                have hr := rroom_eq (m := m) (z := z) (u := u) (b := b) (by have := saneC_bd h02; omega)
                                have hk : okC id m u b c z s me o a l = true := okC_mk (by have := saneC_bd h02; have := Int.emod_nonneg c (show u ≠ 0 by omega); omega)
                                have hq : roomC m u b c z s me o a l = rroom m u b z := by rw [roomC, if_pos h02, hr]
                                by_cases h40 : rroom m u b z > c
                                · skip
                                  exact (rchk_41 id m u b c z s me o a l w h00 h01 h02 h10 h11 h12 h13 h14 h15 h20 h21 h22 h23 h30 h31 h40).mono (by rintro e w1 ⟨rfl, hb⟩; exact ⟨ret_int (Eq.symm (by rw [checkC, if_pos hk, hq, if_pos h40])), hb⟩)
                                · have h40 : rroom m u b z ≤ c := by omega
                                  exact (rchk_40 id m u b c z s me o a l w h00 h01 h02 h10 h11 h12 h13 h14 h15 h20 h21 h22 h23 h30 h31 h40).mono (by rintro e w1 ⟨rfl, hb⟩; exact ⟨ret_int (Eq.symm (by rw [checkC, if_pos hk, hq, if_neg (by omega)])), hb⟩)

end Go.Proofs.Ytbjpjddhkpnofaa
