/- revetmentref44.Of: the loads of a range, of each member. -/
/- revetmentlaw44.same, of the same loads; plain law of loads. -/
import Derived.WalkSpells
import Derived.WalkLawsBesides
import Derived.Lib.Hide
import Derived.Shelf.RegionOpenPlain
import Derived.Test.YtgckcaoncjhgbaaPGx0
set_option maxHeartbeats 4000000
set_option maxRecDepth 100000
open Go.Lib (hid)
namespace Go.Proofs.Ytgckcaoncjhgbaa
open Go.RowKit Go.Proofs.Ytgckcaoncjhgbaa.PG Go.Proofs.YtgckcaoncjhgbaaW.PrintWords Go.Proofs.YtgckcaoncjhgbaaW.PrintLast
set_option linter.unusedVariables false
set_option linter.unusedSimpArgs false
def colF (j : Nat) (x : S134) (s : S143) : S134 := if s.f1 = j then (if s.f0 = true then ⟨x.f0, wrap64 (x.f1 + s.f4)⟩ else ⟨wrap64 (x.f0 + s.f4), x.f1⟩) else x
def zL : S134 := ⟨0, 0⟩
def rowF (m : Nat) (xs : List S143) : List S134 := (List.range m).map fun j => xs.foldl (colF j) zL
theorem rowF_succ (m : Nat) (xs : List S143) : rowF (m + 1) xs = rowF m xs ++ [xs.foldl (colF m) zL] := by simp [rowF, List.range_succ]
theorem xT_ (m : Nat) (xs : List S143) : (rowF m xs).length = m := by simp [rowF]
theorem info135 : (Try.prog.info? 135).map (fun i => (i.zero, i.size, i.bytes)) = some (some (.agg #[(.int .i64 0), (.int .i64 0)]), 2, 16) := by kernel_rfl
theorem box_set0 {w : World} {g : Nat} {a b v : Value} {t : TypeId} (h : w.heap[g]? = some (.cells #[a, b] t (0, 0))) : (w.setCell ⟨g, 0, none⟩ v).heap[g]? = some (.cells #[v, b] t (0, 0)) := by
 simp [World.setCell, Array.getElem?_modify, h]
theorem box_set1 {w : World} {g : Nat} {a b v : Value} {t : TypeId} (h : w.heap[g]? = some (.cells #[a, b] t (0, 0))) : (w.setCell ⟨g, 1, none⟩ v).heap[g]? = some (.cells #[a, v] t (0, 0)) := by
 simp [World.setCell, Array.getElem?_modify, h]
theorem bz2 {w : World} {g : Nat} {a b : Value} {t : TypeId} (h : w.heap[g]? = some (.cells #[a, b] t (0, 0))) : w.cell? ⟨g, 0, none⟩ = some a /\ w.cell? ⟨g, 1, none⟩ = some b := ⟨by simp [World.cell?, h], by simp [World.cell?, h]⟩
theorem bf2 {w : World} {g : Nat} {a b : Value} {t : TypeId} (h : w.heap[g]? = some (.cells #[a, b] t (0, 0))) : w.frozen? ⟨g, 0, none⟩ = false /\ w.frozen? ⟨g, 1, none⟩ = false := ⟨by simp [World.frozen?, h], by simp [World.frozen?, h]⟩
theorem take_snoc (xs : List S143) (i : Nat) (h : i < xs.length) : xs.take (i + 1) = xs.take i ++ [kt_ xs (i : Int)] := by
 rw [List.take_add_one]; simp [h, kt_]
theorem rof_yes (id m u b c z s me o a l at1 n1 : Int) (M : Nat) (hM : m = M) (h100 : M <= 100) (xs : List S143) (w : World)
  (hS : ∀ W, Calls Try.prog 96 #[.agg #[.int .i64 id, .int .i64 m, .int .i64 u, .int .i64 b, .int .i64 c, .int .i64 z, .int .i64 s, .int .i64 me, .int .i64 o, .int .i64 a, .int .i64 l], .int .i64 at1, .int .i64 n1] W fun e w' => ∃ v0_ : Value, e = .returned v0_ /\ Kd.R k143 143 w' W.heap.size (fun _ => True) v0_ xs /\ Below W.heap.size W w')
  (hK : ∀ W, Calls Try.prog 13 #[.agg #[.int .i64 id, .int .i64 m, .int .i64 u, .int .i64 b, .int .i64 c, .int .i64 z, .int .i64 s, .int .i64 me, .int .i64 o, .int .i64 a, .int .i64 l]] W fun e w' => e = .returned (.int .i64 0) /\ Below W.heap.size W w') :
  Calls Try.prog 49 #[.agg #[.int .i64 id, .int .i64 m, .int .i64 u, .int .i64 b, .int .i64 c, .int .i64 z, .int .i64 s, .int .i64 me, .int .i64 o, .int .i64 a, .int .i64 l], .int .i64 at1, .int .i64 n1] w fun e w' => ∃ v0_ : Value, e = .returned v0_ /\ Kd.R k134 135 w' w.heap.size (fun _ => True) v0_ (rowF M xs) /\ Below w.heap.size w w' := by
 have mixed : Try.prog.follows .mixedOrders = true := by kernel_rfl
 subst hM
 have HS := hid hS
 have HK := hid hK
 have HC0 := hid (ju_ w (.cells #[.int .i64 id, .int .i64 (M : Int), .int .i64 u, .int .i64 b, .int .i64 c, .int .i64 z, .int .i64 s, .int .i64 me, .int .i64 o, .int .i64 a, .int .i64 l] 23))
 obtain ⟨q0, q1, q2, q3, q4, q5, q6, q7, q8, q9, q10⟩ := cz11 HC0.out
 clear hS hK
 go_enter Try.func49, Try.ntmps49
 go_wp2_with (go_at_call 96; refine (HS.out _).mono ?_; rintro _ w1 ⟨v0, rfl, hR, hb1⟩; obtain ⟨A, cA, rfl, hcA, hC⟩ := Kd.R_reads hR)
 have HC := hid (jb_ HC0.out hb1)
 have HB1 := hid (jc_ (jg_ (Below.refl _ w) (.cells #[.int .i64 id, .int .i64 (M : Int), .int .i64 u, .int .i64 b, .int .i64 c, .int .i64 z, .int .i64 s, .int .i64 me, .int .i64 o, .int .i64 a, .int .i64 l] 23)) hb1)
 have HX := hid (Kd.R_reads' hR).2.2
 obtain ⟨n, hn⟩ : ∃ n, n = xs.length := ⟨_, rfl⟩
 rw [<- hn] at HX hcA ⊢
 have HN := hid hn
 have hnl : n <= 9223372036854775807 := by rw [hn]; exact Kd.C_max hC
 clear hn hR hC hb1 hcA HC0 q0 q1 q2 q3 q4 q5 q6 q7 q8 q9 q10
 go_loopg [7, 9] M (fun kx v7 v9 wr => ∃ j : Nat, v9 = .int .i64 j /\ j <= M /\ M - j <= kx /\ Hid (Kd.R k134 135 wr w1.heap.size (fun _ => True) v7 (rowF j xs)) /\ Hid (Below w1.heap.size w1 wr))
 case atStart => exact ⟨0, rfl, by omega, by omega, hid (Kd.R_nil _ _ _ _ _), hid (Below.refl _ _)⟩
 case round =>
  obtain ⟨j, rfl, hj, hkx, HO, HB⟩ := hrel
  obtain ⟨A2, cp, rfl, hle, hC2⟩ := Kd.R_reads HO.out
  clear hle hC2
  obtain ⟨q0, q1, q2, q3, q4, q5, q6, q7, q8, q9, q10⟩ := cz11 (jb_ HC.out HB.out)
  by_cases hlt : j < M
  ·
   have hltz : (j : Int) < (M : Int) := by omega
   go_wp2_with (go_at_call 13; refine (HK.out _).mono ?_; rintro _ w2 ⟨rfl, hb2⟩; have HB2 := hid (jc_ HB.out hb2); have HO2 := hid (Kd.R_below HO.out hb2); have HD2 := hid (jb_ (jb_ HC.out HB.out) hb2); clear HB HO q0 q1 q2 q3 q4 q5 q6 q7 q8 q9 q10 hb2)
   obtain ⟨gx, hgx⟩ : ∃ gx, gx = w2.heap.size := ⟨_, rfl⟩
   have HG0 := hid (show (w2.alloc (.cells #[.int .i64 0, .int .i64 0] 135)).heap[gx]? = some (.cells #[.int .i64 0, .int .i64 0] 135 (0, 0)) from by rw [hgx]; exact ju_ w2 _)
   have HGX := hid hgx
   rw [<- hgx]
   clear hgx
   go_loopg [11] n (fun ky v11 wi => ∃ i : Nat, v11 = .int .i64 i /\ i <= n /\ n - i <= ky /\ Hid (Below w2.heap.size w2 wi) /\ Hid (wi.heap[gx]? = some (.cells #[.int .i64 ((xs.take i).foldl (colF j) zL).f0, .int .i64 ((xs.take i).foldl (colF j) zL).f1] 135 (0, 0))))
   case atStart => exact ⟨0, rfl, by omega, by omega, hid (jg_ (Below.refl _ w2) _), HG0⟩
   case round =>
    clear HG0
    obtain ⟨i, rfl, hi, hky, HW, HG⟩ := hrel
    obtain ⟨g0, g1⟩ := bz2 HG.out
    by_cases hln : i < n
    ·
     have hlnz : (i : Int) < (n : Int) := by omega
     obtain ⟨ad, ea, c0, c1, c2, c3, c4⟩ := xN_ (Kd.C_below HX.out (jc_ HB2.out HW.out)) (i : Int) (by omega) (by omega)
     cases ea
     simp only [Int.toNat_natCast] at c0 c1 c2 c3 c4
     have HTK := hid (take_snoc xs i (by have := HN.out; omega))
     obtain ⟨y, hy⟩ : ∃ y, y = (xs.take i).foldl (colF j) zL := ⟨_, rfl⟩
     have HY := hid hy
     rw [<- hy] at HG g0 g1
     clear hy
     obtain ⟨⟨p0, p1, p2, p3, p4⟩, hx⟩ : ∃ x : S143, x = kt_ xs (i : Int) := ⟨_, rfl⟩
     rw [<- hx] at c0 c1 c2 c3 c4 HTK
     have HXX := hid hx
     clear hx
     dsimp only at c0 c1 c2 c3 c4
     by_cases d1 : p1 = (j : Int)
     ·
      have d1b : (p1 == (j : Int)) = true := beq_iff_eq.mpr d1
      have D1 := hid d1
      clear d1
      obtain ⟨f0_, f1_⟩ := bf2 HG.out
      cases p0 with
      | true =>
       obtain ⟨sv, hs⟩ : ∃ sv, sv = wrap64 (y.f1 + p4) := ⟨_, rfl⟩
       have ws : IntKind.i64.wrap (y.f1 + p4) = sv := (kq_ _).trans hs.symm
       have HS1 := hid hs
       clear hs
       go_wp2_with fail
       go_big_region_o
       have HW5 := hid (show Below w2.heap.size w2 (wr.setCell ⟨gx, 1, none⟩ (.int .i64 sv)).drew from (jx_ HW.out (by rw [HGX.out]; exact Nat.le_refl _)).drew)
       have HG5 := hid (show (wr.setCell ⟨gx, 1, none⟩ (.int .i64 sv)).drew.heap[gx]? = some (.cells #[.int .i64 y.f0, .int .i64 sv] 135 (0, 0)) from box_set1 HG.out)
       generalize (wr.setCell ⟨gx, 1, none⟩ (.int .i64 sv)).drew = w5 at HW5 HG5 ⊢
       clear c0 c1 c2 c3 c4 g0 g1 f0_ f1_
       obtain ⟨ad5, ea5, c0, c1, c2, c3, c4⟩ := xN_ (Kd.C_below HX.out (jc_ HB2.out HW5.out)) (i : Int) (by omega) (by omega)
       cases ea5
       simp only [Int.toNat_natCast] at c0 c1 c2 c3 c4
       rw [<- HXX.out] at c0 c1 c2 c3 c4
       dsimp only at c0 c1 c2 c3 c4
       go_wp2
       go_roundg (n - (i + 1))
       case measure => omega
       case rel =>
        refine ⟨i + 1, by go_num, by omega, Nat.le_refl _, HW5, hid ?_⟩
        rw [HTK.out, List.foldl_append, List.foldl_cons, List.foldl_nil, <- HY.out, show colF j y ⟨true, p1, p2, p3, p4⟩ = ⟨y.f0, sv⟩ from by rw [HS1.out]; unfold colF; rw [if_pos D1.out, if_pos rfl]]
        exact HG5.out
      | false =>
       obtain ⟨sv, hs⟩ : ∃ sv, sv = wrap64 (y.f0 + p4) := ⟨_, rfl⟩
       have ws : IntKind.i64.wrap (y.f0 + p4) = sv := (kq_ _).trans hs.symm
       have HS1 := hid hs
       clear hs
       go_wp2_with fail
       go_big_region_o
       all_goals go_wp2
       go_roundg (n - (i + 1))
       case measure => omega
       case rel =>
        refine ⟨i + 1, by go_num, by omega, Nat.le_refl _, hid ?_, hid ?_⟩
        · exact jx_ (kS_ HW.out 1) (by rw [HGX.out]; exact Nat.le_refl _)
        ·
         rw [HTK.out, List.foldl_append, List.foldl_cons, List.foldl_nil, <- HY.out, show colF j y ⟨false, p1, p2, p3, p4⟩ = ⟨sv, y.f1⟩ from by rw [HS1.out]; unfold colF; rw [if_pos D1.out, if_neg (by simp)]]
         exact box_set0 (jf_ HG.out 1)
     ·
      have d1b : (p1 == (j : Int)) = false := beq_eq_false_iff_ne.mpr d1
      have D1 := hid d1
      clear d1
      go_wp2
      go_roundg (n - (i + 1))
      case measure => omega
      case rel =>
       refine ⟨i + 1, by go_num, by omega, Nat.le_refl _, HW, hid ?_⟩
       rw [HTK.out, List.foldl_append, List.foldl_cons, List.foldl_nil, <- HY.out, show colF j y ⟨p0, p1, p2, p3, p4⟩ = y from by unfold colF; rw [if_neg D1.out]]
       exact HG.out
    ·
     have hlnz : ¬ (i : Int) < (n : Int) := by omega
     have hend : xs.take i = xs := List.take_of_length_le (by have := HN.out; omega)
     rw [hend] at HG g0 g1
     have EN := hid (rowF_succ j xs)
     obtain ⟨y, hy⟩ : ∃ y, y = xs.foldl (colF j) zL := ⟨_, rfl⟩
     rw [<- hy] at HG g0 g1 EN
     clear hend hy
     go_wp2_with ((with_reducible refine ki_ (b := .append) (xs := #[.tmp 80, .tmp 82]) rfl ?_); at_builtin; refine Kd.R_append k134 (w0 := w1) w1.heap.size rfl (.tmp 80) (.tmp 82) 99 135 (.agg #[(.int .i64 0), (.int .i64 0)]) 16 rfl Try.underlying99 info135 rfl (by decide) (by omega) (.slice A2 (rowF j xs).length cp) (rowF j xs) (y : S134) [.int .i64 y.f0, .int .i64 y.f1] (fun _ => True) (fun _ => False) rfl (by first | (go_simp; done) | (go_simp; rfl)) ?aP (fun _ hk => hk.elim) ?aF ?aO ?aB ?aS ?aL ?_; (case aP => exact xZ_ _ _ _ y); (case aB => exact jc_ HB2.out HW.out); (case aF => exact (fun _ _ => trivial)); (case aO => exact Kd.R_below HO2.out HW.out); (case aS => exact (jc_ HB2.out HW.out).size); (case aL => rw [xT_]; omega); intro v1 w4 ho hb hgr hat; have HO4 := hid ho; have HB4 := hid hb; clear ho hb hgr hat)
     go_roundg (M - (j + 1))
     case measure => omega
     case rel => exact ⟨j + 1, by go_num, by omega, Nat.le_refl _, hid (by rw [EN.out]; exact HO4.out), HB4⟩
  ·
   have hltz : ¬ (j : Int) < (M : Int) := by omega
   go_wp2
   go_ret
   obtain rfl : j = M := by omega
   exact ⟨_, rfl, Kd.R_lower HO.out HB1.out.size, jc_ HB1.out HB.out⟩
theorem yO_ (A B : Option Addr) (c d : Nat) (L : List S134) (w : World) (hA : Kd.C k134 w A L.length L) (hB : Kd.C k134 w B L.length L) (hl : L.length < 1000000) :
  Calls Try.prog 47 #[.slice A L.length c, .slice B L.length d] w fun e w' => e = .returned (.bool true) /\ Below w.heap.size w w' := by
 obtain ⟨n, hn⟩ : ∃ n, n = L.length := ⟨_, rfl⟩
 rw [<- hn] at hA hB ⊢
 have HA := hid hA
 have HB := hid hB
 have HN := hid hn
 have hl : n < 1000000 := by omega
 clear hA hB hn
 go_enter Try.func47, Try.ntmps47
 go_wp2
 go_loopg [5] n (fun kx v5 wr => ∃ i : Nat, v5 = .int .i64 i /\ i <= n /\ n - i <= kx /\ Hid (Below w.heap.size w wr))
 case atStart => exact ⟨0, rfl, by omega, by omega, hid (Below.refl _ _)⟩
 case round =>
  obtain ⟨i, rfl, hi, hkx, HW⟩ := hrel
  by_cases hlt : i < n
  ·
   have hltz : (i : Int) < (n : Int) := by omega
   obtain ⟨ad, ea, c0, c1⟩ := xf_ (Kd.C_below HA.out HW.out) (i : Int) (by omega) (by omega)
   cases ea
   obtain ⟨bd, eb, b0, b1⟩ := xf_ (Kd.C_below HB.out HW.out) (i : Int) (by omega) (by omega)
   cases eb
   simp only [Int.toNat_natCast] at c0 c1 b0 b1
   generalize vD_ L (i : Int) = x at c0 c1 b0 b1
   go_wp2_with fail
   go_quiet (fail)
   go_wp2
   go_roundg (n - (i + 1))
   case measure => omega
   case rel => exact ⟨i + 1, by go_num, by omega, Nat.le_refl _, hid (kS_ HW.out nq)⟩
  ·
   have hltz : ¬ (i : Int) < (n : Int) := by omega
   go_wp2
   go_ret
   exact ⟨rfl, HW.out⟩
end Go.Proofs.Ytgckcaoncjhgbaa
