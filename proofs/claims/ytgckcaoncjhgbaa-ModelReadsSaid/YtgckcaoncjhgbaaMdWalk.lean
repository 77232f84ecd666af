/- Words for the walks of the laws of package model: a model in rows that stay, commands that came, how much is much. -/
import Derived.WalkKit
import Derived.WalkSpells
import Derived.WalkLawsBesides
import Derived.Lib.Hide
import Derived.Test.YtgckcaoncjhgbaaMdDo
import Derived.Test.YtgckcaoncjhgbaaFMb
import Derived.Test.YtgckcaoncjhgbaaFGw
import Derived.Test.YtgckcaoncjhgbaaPLx10
import Derived.Test.YtgckcaoncjhgbaaPLx5
import Derived.Test.YtgckcaoncjhgbaaPLx8
import Derived.Test.YtgckcaoncjhgbaaPLx9
namespace Go.Proofs.Ytgckcaoncjhgbaa
open Go.RowKit Go.Proofs.Ytgckcaoncjhgbaa.PL Go.Proofs.YtgckcaoncjhgbaaW.PrintWords Go.Proofs.YtgckcaoncjhgbaaW.PrintLast
set_option linter.unusedVariables false
set_option linter.unusedSimpArgs false
attribute [local go_sem] List.getElem?_toArray List.getElem?_cons_succ List.getElem?_cons_zero
-- revetmentlaw18_code.calls revetmentref18_Much.calls
/-- A model in rows of one's own, as a fact that stays. -/
def MrF (base : Nat) (x y q : Value) (D : Mdl) : Fct where
  P := fun W => MR base W x y q D
  T := [59, 9, 3]
  below := fun hb h => ⟨Kd.R_below h.1 hb, Kd.R_below h.2.1 hb, Kd.R_below h.2.2 hb⟩
  set := fun hw hb ht h => by
    have hn := not_mem_of ht
    refine ⟨st_R hw h.1 hb (fun q hq => hn q ?_), st_R hw h.2.1 hb (fun q hq => hn q ?_), st_R hw h.2.2 hb (fun q hq => hn q ?_)⟩
    · have h2 : q ∈ [59] := hq
      rw [List.mem_singleton.1 h2]; decide
    · have h2 : q ∈ [9] := hq
      rw [List.mem_singleton.1 h2]; decide
    · have h2 : q ∈ [3] := hq
      rw [List.mem_singleton.1 h2]; decide
theorem MR_lower {base base' : Nat} {w : World} {x y q : Value} {D : Mdl} (h : MR base w x y q D) (hb : base' ≤ base) : MR base' w x y q D := ⟨Kd.R_lower h.1 hb, Kd.R_lower h.2.1 hb, Kd.R_lower h.2.2 hb⟩
theorem MR_shape {base : Nat} {w : World} {x y q : Value} {D : Mdl} (h : MR base w x y q D) : ∃ (A1 : Option Addr) (n1 k1 : Nat) (A2 : Option Addr) (n2 k2 : Nat) (A3 : Option Addr) (n3 k3 : Nat), x = .slice A1 n1 k1 ∧ y = .slice A2 n2 k2 ∧ q = .slice A3 n3 k3 := by
  obtain ⟨A1, k1, h1⟩ := Kd.R_slice h.1
  obtain ⟨A2, k2, h2⟩ := Kd.R_slice h.2.1
  obtain ⟨A3, k3, h3⟩ := Kd.R_slice h.2.2
  exact ⟨_, _, _, _, _, _, _, _, _, h1, h2, h3⟩
/-- Bytes that were made, as a text. -/
theorem BR_string {W : World} {B : Option Addr} {m j : Nat} {l : List Int} (h : BR W (.slice B m j) l) : (convert 57 9 (.slice B m j)).run Try.prog W = .ok (.string (strOfNums l)) W := by
  obtain ⟨A, c, e, -, hC⟩ := BR_slc h
  cases e
  exact Kd.C_string Try.underlying57 Try.underlying5 Try.underlying9 hC
theorem strOf_bytesOf (s : ByteArray) : strOfNums (bytesOf s) = s := by
  apply ByteArray.ext
  apply Array.ext'
  have e : ((fun n : Int => UInt8.ofNat n.toNat) ∘ fun b : UInt8 => (b.toNat : Int)) = id := by funext b; simp
  simp [strOfNums, bytesOf, List.map_map, e]
theorem cmd_at {W : World} {A : Option Addr} {n : Nat} {xs : List S65} (h : Kd.C k65 W A n xs) (j : Nat) (hj : j < n) : ∃ ad A4 c4, A = some ad ∧ (rd_T65 xs j).f4.length ≤ c4 ∧ (∀ {W' : World}, Below W.heap.size W W' → Kd.C (Kd.int .u8) W' A4 (rd_T65 xs j).f4.length (rd_T65 xs j).f4 ∧ W'.cell? (ad.add (j * 6)) = some (.int .i64 (rd_T65 xs j).f0) ∧ W'.cell? ⟨(ad.add (j * 6)).block, (ad.add (j * 6)).off + 1, none⟩ = some (.int .i64 (rd_T65 xs j).f1) ∧ W'.cell? ⟨(ad.add (j * 6)).block, (ad.add (j * 6)).off + 2, none⟩ = some (.int .i64 (rd_T65 xs j).f2) ∧ W'.cell? ⟨(ad.add (j * 6)).block, (ad.add (j * 6)).off + 3, none⟩ = some (.int .i64 (rd_T65 xs j).f3) ∧ W'.cell? ⟨(ad.add (j * 6)).block, (ad.add (j * 6)).off + 4, none⟩ = some (.slice A4 (rd_T65 xs j).f4.length c4) ∧ W'.cell? ⟨(ad.add (j * 6)).block, (ad.add (j * 6)).off + 5, none⟩ = some (.bool (rd_T65 xs j).f5)) := by
  obtain ⟨ad, A4, c4, e, h0, h1, h2, h3, h4, h5, hl, hC⟩ := at_T65 h (j : Int) (by omega) (by omega)
  have up : ∀ {W' : World} {p : Addr} {v : Value}, Below W.heap.size W W' → W.cell? p = some v → W'.cell? p = some v := fun hb hp => (hb.cell (World.block_lt_of_cell? _ _ hp)).trans hp
  exact ⟨ad, A4, c4, e, hl, fun hb => ⟨Kd.C_below hC hb, up hb h0, up hb h1, up hb h2, up hb h3, up hb h4, up hb h5⟩⟩
theorem minv_new (id m u b c z s me o a l : Int) (hk : checkC id m u b c z s me o a l = 0) : MInv2 id m u b c z s me o a l ⟨List.replicate z.toNat z59, List.replicate z.toNat ByteArray.empty, List.replicate z.toNat 0⟩ := by
  have hI := Geo.inv_new hk
  refine ⟨⟨hI.1, by simp, by simp, fun j hj => ?_⟩, hI⟩
  have hj2 : j < z.toNat := by simpa using hj
  have e1 : rdOf default (List.replicate z.toNat ByteArray.empty) (j : Int) = ByteArray.empty := by simp [rdOf, List.getD_eq_getElem?_getD, hj2]
  have e2 : rd_T59 (List.replicate z.toNat z59) (j : Int) = z59 := by simp [rd_T59, List.getD_eq_getElem?_getD, hj2]
  have e3 : rdOf default (List.replicate z.toNat (0 : Int)) (j : Int) = 0 := by simp [rdOf, List.getD_eq_getElem?_getD, hj2]
  show ((rdOf default (List.replicate z.toNat ByteArray.empty) (j : Int)).size : Int) = (rd_T59 (List.replicate z.toNat z59) (j : Int)).f1 * b ∧ 0 ≤ rdOf default (List.replicate z.toNat (0 : Int)) (j : Int) ∧ rdOf default (List.replicate z.toNat (0 : Int)) (j : Int) ≤ (rd_T59 (List.replicate z.toNat z59) (j : Int)).f1
  rw [e1, e2, e3]
  exact ⟨by show (0 : Int) = 0 * b; omega, Int.le_refl 0, Int.le_refl 0⟩
theorem doM_len {id m u b c z s me o a l : Int} {D : Mdl} (h : MInv2 id m u b c z s me o a l D) (x : S65) : (doM id m u b c z s me o a l D x).1.L.length = D.L.length := by
  have h1 := (rightZ_len h.1.1).2.1
  have h2 := (rightZ_len (doM_ok h x).1.1.1).2.1
  omega
theorem readZ_yes {id m u b c z s me o a l : Int} {D : Mdl} {i p k : Int} (hi : MInv id m u b c z s me o a l D) (i0 : 0 ≤ i) (i1 : i < (D.L.length : Int)) (p0 : 0 ≤ p) (k1 : 1 ≤ k) (h : p + k ≤ (rd_T59 D.L i).f1) : readZ id m u b c z s me o a l D.L i p k = 0 := by
  have hw := rd_wp hi i.toNat (by omega)
  rw [Int.toNat_of_nonneg i0] at hw
  have hs := sizeC_le (rightZ_len hi.1).1
  have ha : atZ id m u b c z s me o a l D.L i = (rd_T59 D.L i, 0) := by
    unfold atZ
    rw [if_pos hi.1, if_neg (by omega), if_neg (by omega)]
  unfold readZ
  rw [ha]
  have e : wrap64 ((rd_T59 D.L i).f1 - p) = (rd_T59 D.L i).f1 - p := by unfold wrap64; omega
  show (if (0 : Int) ≠ 0 then _ else _) = _
  rw [if_neg (by decide), if_neg (by omega), if_neg (by omega)]
  show (if (rd_T59 D.L i).f1 < p then _ else _) = _
  rw [if_neg (by omega)]
  show (if wrap64 ((rd_T59 D.L i).f1 - p) < k then _ else _) = _
  rw [e, if_neg (by omega)]
theorem code18_any (x : Int) (W : World) : Calls Try.prog 23 #[.int .i64 x] W fun e w' => e = .returned (.int .i64 x) ∧ Below W.heap.size W w' := by
  refine (revetmentlaw18_code.calls x x W rfl).mono ?_
  rintro e w' ⟨rfl, nd, rfl⟩
  exact ⟨rfl, pw_below_drewN (Below.refl _ _) nd⟩
theorem much_go (xs : List S65) (id m u b c z s me o a l : Int) : ∀ (d : Nat) (s_ i : Int), 0 ≤ i → i ≤ 50 → (50 - i).toNat ≤ d → ∃ B, revetmentref18_Much.l0 (2 * d + 2) xs s_ i id m u b c z s me o a l = some B ∧ (B = false → xs.length ≤ 40) := by
  have hS : ∃ S, revetmentref07_Small.f id m u b c z s me o a l = some S := by
    unfold revetmentref07_Small.f revetmentref07_Check.f
    rw [Option.bind_some]
    repeat' split
    all_goals exact ⟨_, rfl⟩
  obtain ⟨S, hS⟩ := hS
  have hf : ∀ (k : Nat) (s_ i : Int), ∃ B, revetmentref18_Much.j1 (k + 1) xs s_ i false id m u b c z s me o a l = some B ∧ (B = false → xs.length ≤ 40) := by
    intro k s_ i
    unfold revetmentref18_Much.j1 revetmentref07_Check.f
    rw [if_neg (by decide), Option.bind_some, hS, Option.bind_some]
    by_cases h40 : (xs.length : Int) > 40
    · rw [if_pos h40]; exact ⟨_, rfl, fun h => by cases h⟩
    · rw [if_neg h40]
      split
      all_goals exact ⟨_, rfl, fun _ => by omega⟩
  intro d
  induction d with
  | zero =>
    intro s_ i h0 h1 hd
    unfold revetmentref18_Much.l0
    rw [decide_eq_false (show ¬ i < 50 by omega)]
    split
    all_goals exact hf _ _ _
  | succ d ih =>
    intro s_ i h0 h1 hd
    rw [show 2 * (d + 1) + 2 = (2 * d + 2) + 1 + 1 from by omega]
    unfold revetmentref18_Much.l0
    by_cases hl : i < (xs.length : Int)
    · rw [if_pos hl]
      by_cases h5 : i < 50
      · rw [decide_eq_true h5]
        unfold revetmentref18_Much.j1
        rw [if_pos rfl, if_pos h0, if_pos hl]
        split
        · exact ⟨_, rfl, fun h => by cases h⟩
        · have e : wrap64 (i + 1) = i + 1 := by unfold wrap64; omega
          rw [e]
          exact ih _ _ (by omega) (by omega) (by omega)
      · rw [decide_eq_false h5]; exact hf _ _ _
    · rw [if_neg hl]; exact hf _ _ _
theorem much_any (id m u b c z s me o a l : Int) (A : Option Addr) (k : Nat) (xs : List S65) (W : World) (h : Kd.C k65 W A xs.length xs) (hc : xs.length ≤ k) : ∃ B : Bool, (B = false → xs.length ≤ 40) ∧ ∀ (W' : World), Below W.heap.size W W' → Calls Try.prog 24 #[.agg #[.int .i64 id, .int .i64 m, .int .i64 u, .int .i64 b, .int .i64 c, .int .i64 z, .int .i64 s, .int .i64 me, .int .i64 o, .int .i64 a, .int .i64 l], .slice A xs.length k] W' fun e w' => e = .returned (.bool B) ∧ Below W'.heap.size W' w' := by
  obtain ⟨B, hB, h40⟩ := much_go xs id m u b c z s me o a l 50 0 0 (by omega) (by omega) (by omega)
  exact ⟨B, h40, fun W' hb => revetmentref18_Much.calls 102 id m u b c z s me o a l A k xs B W' (Kd.C_below h hb) hc hB⟩
/-- What was written of a zone, since the last reset. -/
def WrIs (D : Mdl) (zn : Int) (s_ : ByteArray) : Prop := s_ = if 0 ≤ zn ∧ zn < (D.L.length : Int) then rdOf default D.T zn else ByteArray.empty
theorem wr_new {D : Mdl} {n : Nat} (zn : Int) (h : D.T = List.replicate n ByteArray.empty) : WrIs D zn ByteArray.empty := by
  unfold WrIs
  split
  · rw [h]
    simp only [rdOf, List.getD_eq_getElem?_getD, List.getElem?_replicate]
    split <;> rfl
  · rfl
def wrN (x : S65) (E zn : Int) (s_ : ByteArray) : ByteArray := if E = 0 ∧ x.f1 = zn then (if x.f0 = 0 then s_ ++ strOfNums x.f4 else if x.f0 = 3 then ByteArray.empty else s_) else s_
theorem wr_step {id m u b c z s me o a l : Int} {D N : Mdl} {x : S65} {E zn : Int} {s_ : ByteArray} (hD : MInv id m u b c z s me o a l D) (hN : MInv id m u b c z s me o a l N) (hl : N.L.length = D.L.length) (h : WrIs D zn s_) (ht : TextIs D x N E) (hr : (E = 0 ∧ (x.f0 = 0 ∨ x.f0 = 3)) → 0 ≤ x.f1 ∧ x.f1 < (D.L.length : Int)) : WrIs N zn (wrN x E zn s_) := by
  have hT : D.T.length = D.L.length := hD.2.1
  unfold WrIs at h ⊢
  unfold TextIs at ht
  rw [hl]
  by_cases hz : 0 ≤ zn ∧ zn < (D.L.length : Int)
  · rw [if_pos hz] at h ⊢
    by_cases hE : E = 0
    · by_cases h0 : x.f0 = 0
      · have hb := hr ⟨hE, .inl h0⟩
        rw [if_pos ⟨hE, h0⟩] at ht
        rw [ht, rdO_set _ _ _ _ hb.1 (by omega) _ hz.1]
        unfold wrN
        by_cases hx : x.f1 = zn
        · rw [if_pos ⟨hE, hx⟩, if_pos h0, if_pos hx.symm, h, hx]
        · rw [if_neg (fun hh => hx hh.2), if_neg (fun hh => hx hh.symm), h]
      · rw [if_neg (fun hh => h0 hh.2)] at ht
        by_cases h3 : x.f0 = 3
        · have hb := hr ⟨hE, .inr h3⟩
          rw [if_pos ⟨hE, h3⟩] at ht
          rw [ht, rdO_set _ _ _ _ hb.1 (by omega) _ hz.1]
          unfold wrN
          by_cases hx : x.f1 = zn
          · rw [if_pos ⟨hE, hx⟩, if_neg h0, if_pos h3, if_pos hx.symm]
          · rw [if_neg (fun hh => hx hh.2), if_neg (fun hh => hx hh.symm), h]
        · rw [if_neg (fun hh => h3 hh.2)] at ht
          unfold wrN
          rw [ht, if_neg h0, if_neg h3, ite_self, h]
    · rw [if_neg (fun hh => hE hh.1), if_neg (fun hh => hE hh.1)] at ht
      unfold wrN
      rw [ht, if_neg (fun hh => hE hh.1), h]
  · rw [if_neg hz] at h ⊢
    unfold wrN
    by_cases hE : E = 0 ∧ x.f1 = zn
    · rw [if_pos hE]
      by_cases h0 : x.f0 = 0
      · have := hr ⟨hE.1, .inl h0⟩; rw [hE.2] at this; exact absurd this hz
      · rw [if_neg h0]
        by_cases h3 : x.f0 = 3
        · rw [if_pos h3]
        · rw [if_neg h3, h]
    · rw [if_neg hE, h]
/-- A read of one block, against what was written. -/
theorem read_end {id m u b c z s me o a l : Int} {D : Mdl} {zn p : Int} {s_ : ByteArray} (hi : MInv id m u b c z s me o a l D) (h : WrIs D zn s_) (p0 : 0 ≤ p) (p1 : p < 256) :
    ((readM id m u b c z s me o a l D zn p 1).1 = 0 → (p + 1) * b ≤ (s_.size : Int) ∧ (readM id m u b c z s me o a l D zn p 1).2 = s_.extract (p * b).toNat ((p + 1) * b).toNat) ∧ (¬ (readM id m u b c z s me o a l D zn p 1).1 = 0 → (s_.size : Int) < (p + 1) * b) := by
  have hcb := okC_bd (checkC_ok (rightZ_len hi.1).1).1
  have hb1 : 1 ≤ b := by omega
  have hT : D.T.length = D.L.length := hi.2.1
  constructor
  · intro h0
    have hz : readZ id m u b c z s me o a l D.L zn p 1 = 0 := by
      by_cases hz : readZ id m u b c z s me o a l D.L zn p 1 = 0
      · exact hz
      · unfold readM at h0; rw [if_pos hz] at h0; exact h0
    obtain ⟨i0, i1, -, g2, g3⟩ := readZ_ok hi.1 hz
    have hsz := (hi.2.2.2 zn.toNat (by omega)).1
    rw [Int.toNat_of_nonneg i0] at hsz
    unfold WrIs at h
    rw [if_pos ⟨i0, i1⟩] at h
    refine ⟨?_, ?_⟩
    · rw [h, hsz]; exact Int.mul_le_mul_of_nonneg_right g3 (by omega)
    · unfold readM; rw [if_neg (fun hh => hh hz), h]
  · intro h0
    have hz : ¬ readZ id m u b c z s me o a l D.L zn p 1 = 0 := by
      intro hz; unfold readM at h0; rw [if_neg (fun hh => hh hz)] at h0; exact h0 rfl
    have hp : 1 ≤ (p + 1) * b := by
      have := Int.mul_le_mul_of_nonneg_right (show 1 ≤ p + 1 by omega) (show 0 ≤ b by omega)
      omega
    unfold WrIs at h
    by_cases hin : 0 ≤ zn ∧ zn < (D.L.length : Int)
    · rw [if_pos hin] at h
      have hsz := (hi.2.2.2 zn.toNat (by omega)).1
      rw [Int.toNat_of_nonneg hin.1] at hsz
      rw [h, hsz]
      have hw : (rd_T59 D.L zn).f1 < p + 1 := by
        refine Int.not_le.1 (fun hle => hz (readZ_yes hi hin.1 hin.2 p0 (by omega) hle))
      exact Int.mul_lt_mul_of_pos_right hw (by omega)
    · rw [if_neg hin] at h
      rw [h]
      show ((0 : Nat) : Int) < _
      omega
end Go.Proofs.Ytgckcaoncjhgbaa
