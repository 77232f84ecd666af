/- Plain laws on settings: which may be, and the numbers that follow from them. No program in sight. No condition. -/
import Derived.WalkKit
namespace Go.Proofs.Ytgckcaoncjhgbaa
set_option linter.unusedVariables false
set_option linter.unusedSimpArgs false
def okN (n : Int) : Bool := decide (1 <= n) && decide (n <= 1048576)
theorem all_no (p : Int -> Bool) : ∀ (ns : List Int) (k : Nat), k < ns.length -> p (ns.getD k 0) = false -> ns.all p = false
 | [], _, h, _ => by simp at h
 | x :: l, 0, _, h => by simp at h; simp [h]
 | x :: l, k + 1, hk, h => by
  have := all_no p l k (by simpa using hk) (by simpa using h)
  rw [List.all_cons, this]; simp
theorem all_snoc (p : Int -> Bool) (ns : List Int) (k : Nat) (hk : k < ns.length) (h : (ns.take k).all p = true) (h2 : p (ns.getD k 0) = true) : (ns.take (k + 1)).all p = true := by
 rw [List.take_succ_eq_append_getElem hk, List.all_append, h]
 simpa [List.getD_eq_getElem?_getD, hk] using h2
theorem okN_yes {n : Int} (h : 1 <= n /\ n <= 1048576) : okN n = true := by simp [okN, h.1, h.2]
theorem okN_no {n : Int} (h : n < 1 \/ 1048576 < n) : okN n = false := by unfold okN; rw [<- Bool.decide_and]; simp; omega
def jZ_ (m u b c z s me o a l : Int) : Bool := [m, u, b, c, z, s, me, o, a, l].all okN
theorem jY_ {m u b c z s me o a l : Int} (h : jZ_ m u b c z s me o a l = true) :
  (1 <= m /\ m <= 1048576) /\ (1 <= u /\ u <= 1048576) /\ (1 <= b /\ b <= 1048576) /\ (1 <= c /\ c <= 1048576) /\ (1 <= z /\ z <= 1048576) /\ (1 <= s /\ s <= 1048576) /\ (1 <= me /\ me <= 1048576) /\ (1 <= o /\ o <= 1048576) /\ (1 <= a /\ a <= 1048576) /\ (1 <= l /\ l <= 1048576) := by
 simpa [jZ_, okN] using h
theorem saneC_mk {m u b c z s me o a l : Int} (h : (1 <= m /\ m <= 1048576) /\ (1 <= u /\ u <= 1048576) /\ (1 <= b /\ b <= 1048576) /\ (1 <= c /\ c <= 1048576) /\ (1 <= z /\ z <= 1048576) /\ (1 <= s /\ s <= 1048576) /\ (1 <= me /\ me <= 1048576) /\ (1 <= o /\ o <= 1048576) /\ (1 <= a /\ a <= 1048576) /\ (1 <= l /\ l <= 1048576)) : jZ_ m u b c z s me o a l = true := by
 simpa [jZ_, okN] using h
def rowC (m u b c z s me o a l : Int) : Int := if jZ_ m u b c z s me o a l = true then (m - 1) * u else 0
def vH_ (m u b c z s me o a l : Int) : Int := if jZ_ m u b c z s me o a l = true then c / u else 0
def dataC (m u b c z s me o a l : Int) : Int := if jZ_ m u b c z s me o a l = true then m - 1 else 0
def allC (m u b c z s me o a l : Int) : Int := if jZ_ m u b c z s me o a l = true then me + z + s else 0
def zg_ (m u b z : Int) : Int := 320 + 48 * z + 8 * m + (z + 1) * u * b
def yt_ (m u b c z s me o a l : Int) : Int := if jZ_ m u b c z s me o a l = true then (zg_ m u b z + b - 1) / b + 2 else 0
def inB (n lo hi : Int) : Bool := decide (lo <= n) && decide (n <= hi)
theorem jo_ {n lo hi : Int} (h : inB n lo hi = true) : lo <= n /\ n <= hi := by simpa [inB] using h
def okC (id m u b c z s me o a l : Int) : Bool := inB id 0 1099511627776 && inB m 3 16 && inB u 1 64 && inB b 1 4096 && inB c 1 4096 && !(c % u != 0) && inB z 1 64 && inB s 1 64 && inB me 3 64 && decide (me + z + s <= 64) && inB a 1 z && inB o 1 a && inB l (a + s + me) 64
def jn_ (id m u b c z s me o a l : Int) : Int := if okC id m u b c z s me o a l = true then (if yt_ m u b c z s me o a l > c then 17 else 0) else 1
def kg_ (m u b c z s me o a l : Int) : Int := if jZ_ m u b c z s me o a l = true then c / u * ((m - 1) * u) else 0
def zl_ (m u b z : Int) : Int := if (320 + 8 * m + 48 * z) % b > 0 then (320 + 8 * m + 48 * z + (z + 1) * u * b) / b + 1 + 2 else (320 + 8 * m + 48 * z + (z + 1) * u * b) / b + 2
theorem rroom_eq {m u b z : Int} (hb : 1 <= b) : (zg_ m u b z + b - 1) / b + 2 = zl_ m u b z := by
 have e : zg_ m u b z = 320 + 8 * m + 48 * z + (z + 1) * u * b := by unfold zg_; omega
 rw [e, zl_]
 have h1 : (320 + 8 * m + 48 * z + (z + 1) * u * b) / b = (320 + 8 * m + 48 * z) / b + (z + 1) * u := Int.add_mul_ediv_right _ _ (by omega)
 have h2 : (320 + 8 * m + 48 * z + (z + 1) * u * b + b - 1) / b = (320 + 8 * m + 48 * z + b - 1) / b + (z + 1) * u := by
  rw [show 320 + 8 * m + 48 * z + (z + 1) * u * b + b - 1 = 320 + 8 * m + 48 * z + b - 1 + (z + 1) * u * b by omega]
  exact Int.add_mul_ediv_right _ _ (by omega)
 rw [h1, h2]
 generalize 320 + 8 * m + 48 * z = x
 have d := Int.mul_ediv_add_emod x b
 have p := Int.emod_nonneg x (show b ≠ 0 by omega)
 have q := Int.emod_lt_of_pos x (show 0 < b by omega)
 split
 ·
  have : (x + b - 1) / b = x / b + 1 := by
   rw [Int.ediv_eq_iff_of_pos (by omega)]
   rw [Int.add_mul, Int.mul_comm (x / b)]; omega
  omega
 ·
  have : (x + b - 1) / b = x / b := by
   rw [Int.ediv_eq_iff_of_pos (by omega)]
   rw [Int.mul_comm (x / b)]; omega
  omega
theorem kB_ {id m u b c z s me o a l : Int} (h : okC id m u b c z s me o a l = true) : 0 <= id /\ id <= 1099511627776 /\ 3 <= m /\ m <= 16 /\ 1 <= u /\ u <= 64 /\ 1 <= b /\ b <= 4096 /\ 1 <= c /\ c <= 4096 /\ c % u = 0 /\ 1 <= z /\ z <= 64 /\ 1 <= s /\ s <= 64 /\ 3 <= me /\ me <= 64 /\ me + z + s <= 64 /\ 1 <= a /\ a <= z /\ 1 <= o /\ o <= a /\ a + s + me <= l /\ l <= 64 := by
 simp [okC, inB] at h; omega
theorem okC_mk {id m u b c z s me o a l : Int} (h : 0 <= id /\ id <= 1099511627776 /\ 3 <= m /\ m <= 16 /\ 1 <= u /\ u <= 64 /\ 1 <= b /\ b <= 4096 /\ 1 <= c /\ c <= 4096 /\ c % u = 0 /\ 1 <= z /\ z <= 64 /\ 1 <= s /\ s <= 64 /\ 3 <= me /\ me <= 64 /\ me + z + s <= 64 /\ 1 <= a /\ a <= z /\ 1 <= o /\ o <= a /\ a + s + me <= l /\ l <= 64) : okC id m u b c z s me o a l = true := by
 simp [okC, inB]; omega
theorem okC_sane {id m u b c z s me o a l : Int} (h : okC id m u b c z s me o a l = true) : jZ_ m u b c z s me o a l = true := by
 have := kB_ h; exact saneC_mk (by omega)
theorem kr_ {id m u b c z s me o a l : Int} (h : okC id m u b c z s me o a l = true -> False) : jn_ id m u b c z s me o a l = 1 := by
 rw [jn_, if_neg (fun k => h k)]
theorem checkC_insane {id m u b c z s me o a l : Int} (h : jZ_ m u b c z s me o a l = false) : jn_ id m u b c z s me o a l = 1 :=
 kr_ (fun k => by rw [okC_sane k] at h; exact absurd h (by decide))
theorem kM_ {id m u b c z s me o a l : Int} (h : jn_ id m u b c z s me o a l = 0) : okC id m u b c z s me o a l = true /\ yt_ m u b c z s me o a l <= c := by
 rw [jn_] at h
 by_cases h1 : okC id m u b c z s me o a l = true
 ·
  rw [if_pos h1] at h
  by_cases h2 : yt_ m u b c z s me o a l > c
  · rw [if_pos h2] at h; omega
  · exact ⟨h1, by omega⟩
 · rw [if_neg h1] at h; omega
end Go.Proofs.Ytgckcaoncjhgbaa
