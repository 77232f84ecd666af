/- slices.Clone of ints and of strings; model.there, model.failed. -/
import Derived.Test.YtgckcaoncjhgbaaFLb
import Derived.Test.YtgckcaoncjhgbaaFGw
set_option maxHeartbeats 4000000
set_option maxRecDepth 100000
open Go.Lib (hid)
namespace Go.Proofs.Ytgckcaoncjhgbaa
open Go.RowKit Go.Proofs.Ytgckcaoncjhgbaa.PL Go.Proofs.YtgckcaoncjhgbaaW.PrintWords Go.Proofs.YtgckcaoncjhgbaaW.PrintLast
set_option linter.unusedVariables false
set_option linter.unusedSimpArgs false
theorem eqI_in (d : Nat) (w : World) (A : Option Addr) (n c : Nat) : (Op.equalIn (d + 1) 51 (Value.slice A n c) (Value.slice none 0 0)).run Try.prog w = .ok A.isNone w := by
 cases A <;> simp [Op.equalIn, run_underlying Try.underlying51]
theorem eqI_op (w : World) (A : Option Addr) (n c : Nat) : (Op.equal 51 (Value.slice A n c) (Value.slice none 0 0)).run Try.prog w = .ok A.isNone w := eqI_in 9999 w A n c
theorem eqI_any (w : World) (A : Option Addr) (n c : Nat) : (Go.binOp .eql 51 (Value.slice A n c) (Value.slice none 0 0)).run Try.prog w = .ok (.bool A.isNone) w := by
 simp [go_sem, Go.binOp, eqI_op, Result.andThen]
attribute [local go_sem] eqI_any
theorem cloneI_any (A0 : Option Addr) (c0 : Nat) (l0 : List Int) (w : World) (hr0 : Kd.C (Kd.int .i64) w A0 l0.length l0) (hc0 : l0.length <= c0) (hl : l0.length < 1000000000) :
  Calls Try.prog 109 #[.slice A0 l0.length c0] w fun e w' => ∃ v0_ : Value, e = .returned v0_ /\ Kd.R (Kd.int .i64) 3 w' w.heap.size (fun _ => True) v0_ l0 /\ Below w.heap.size w w' := by
 cases A0 with
 | none =>
  have h0 : l0 = [] := by
   rcases Nat.eq_zero_or_pos l0.length with h | h
   · exact List.eq_nil_of_length_eq_zero h
   · obtain ⟨ad, e, _⟩ := hr0.2.2 h; cases e
  subst h0
  clear hr0 hl
  go_enter Try.func109, Try.ntmps109
  go_wp2
  go_ret
  exact ⟨_, rfl, Kd.R_nil _ _ _ _ _, Below.refl _ _⟩
 | some ad =>
  obtain ⟨n, hn⟩ : ∃ n, n = l0.length := ⟨_, rfl⟩
  rw [<- hn] at hr0 hc0 hl ⊢
  have HR := hid hr0
  have Hn := hid hn; clear hn hr0
  go_enter Try.func109, Try.ntmps109
  have hO : Kd.R (Kd.int .i64) 3 (w.alloc (.cells #[] 3)) w.heap.size (fun _ => True) (.slice (some ⟨w.heap.size, 0, none⟩) 0 0) ([] : List Int) :=
   ⟨fun _ _ => trivial, [], ⟨rfl, .inr ⟨w.heap.size, 0, #[], rfl, Nat.le_refl _, ju_ w _, Nat.le_refl _, by simp [maxLen], rfl, rfl⟩⟩, ⟨rfl, fun j p hj => by simp at hj⟩⟩
  have HO := hid hO; clear hO
  have HB := hid (jg_ (Below.refl _ w) (.cells #[] 3))
  go_wp2_with ((with_reducible refine ki_ (b := .append) (xs := #[.tmp 5, .tmp 6]) rfl ?_); at_builtin; refine Kd.R_append_rows (Kd.int .i64) (w0 := w) w.heap.size rfl (.tmp 5) (.tmp 6) 51 3 (.int .i64 0) 8 rfl Try.underlying51 zN_ rfl (by decide) (by omega) (.slice (some ⟨w.heap.size, 0, none⟩) 0 0) [] l0 (some ad) n c0 (fun _ => True) (fun _ => False) rfl rfl ?aO ?aR (fun _ _ h => h) (fun _ h => h.elim) ?aF ?aB ?aS ?aL ?_; (case aR => exact Kd.C_alloc HR.out _); (case aB => exact HB.out); (case aF => exact (fun _ _ => trivial)); (case aO => exact HO.out); (case aS => exact HB.out.size); (case aL => simp; omega); intro v1 w4 ho hb hgr hat; have HO4 := hid ho; have HB4 := hid hb; clear ho hb hgr hat)
  go_ret
  exact ⟨_, rfl, HO4.out, HB4.out⟩
theorem eqT_in (d : Nat) (w : World) (A : Option Addr) (n c : Nat) : (Op.equalIn (d + 1) 50 (Value.slice A n c) (Value.slice none 0 0)).run Try.prog w = .ok A.isNone w := by
 cases A <;> simp [Op.equalIn, run_underlying Try.underlying50]
theorem eqT_op (w : World) (A : Option Addr) (n c : Nat) : (Op.equal 50 (Value.slice A n c) (Value.slice none 0 0)).run Try.prog w = .ok A.isNone w := eqT_in 9999 w A n c
theorem eqT_any (w : World) (A : Option Addr) (n c : Nat) : (Go.binOp .eql 50 (Value.slice A n c) (Value.slice none 0 0)).run Try.prog w = .ok (.bool A.isNone) w := by
 simp [go_sem, Go.binOp, eqT_op, Result.andThen]
attribute [local go_sem] eqT_any
theorem cloneT_any (A0 : Option Addr) (c0 : Nat) (l0 : List ByteArray) (w : World) (hr0 : Kd.C Kd.string w A0 l0.length l0) (hc0 : l0.length <= c0) (hl : l0.length < 1000000000) :
  Calls Try.prog 110 #[.slice A0 l0.length c0] w fun e w' => ∃ v0_ : Value, e = .returned v0_ /\ Kd.R Kd.string 9 w' w.heap.size (fun _ => True) v0_ l0 /\ Below w.heap.size w w' := by
 cases A0 with
 | none =>
  have h0 : l0 = [] := by
   rcases Nat.eq_zero_or_pos l0.length with h | h
   · exact List.eq_nil_of_length_eq_zero h
   · obtain ⟨ad, e, _⟩ := hr0.2.2 h; cases e
  subst h0
  clear hr0 hl
  go_enter Try.func110, Try.ntmps110
  go_wp2
  go_ret
  exact ⟨_, rfl, Kd.R_nil _ _ _ _ _, Below.refl _ _⟩
 | some ad =>
  obtain ⟨n, hn⟩ : ∃ n, n = l0.length := ⟨_, rfl⟩
  rw [<- hn] at hr0 hc0 hl ⊢
  have HR := hid hr0
  have Hn := hid hn; clear hn hr0
  go_enter Try.func110, Try.ntmps110
  have hO : Kd.R Kd.string 9 (w.alloc (.cells #[] 9)) w.heap.size (fun _ => True) (.slice (some ⟨w.heap.size, 0, none⟩) 0 0) ([] : List ByteArray) :=
   ⟨fun _ _ => trivial, [], ⟨rfl, .inr ⟨w.heap.size, 0, #[], rfl, Nat.le_refl _, ju_ w _, Nat.le_refl _, by simp [maxLen], rfl, rfl⟩⟩, ⟨rfl, fun j p hj => by simp at hj⟩⟩
  have HO := hid hO; clear hO
  have HB := hid (jg_ (Below.refl _ w) (.cells #[] 9))
  go_wp2_with ((with_reducible refine ki_ (b := .append) (xs := #[.tmp 5, .tmp 6]) rfl ?_); at_builtin; refine Kd.R_append_rows Kd.string (w0 := w) w.heap.size rfl (.tmp 5) (.tmp 6) 50 9 (.string ⟨#[]⟩) 16 rfl Try.underlying50 info9 rfl (by decide) (by omega) (.slice (some ⟨w.heap.size, 0, none⟩) 0 0) [] l0 (some ad) n c0 (fun _ => True) (fun _ => False) rfl rfl ?aO ?aR (fun _ _ h => h) (fun _ h => h.elim) ?aF ?aB ?aS ?aL ?_; (case aR => exact Kd.C_alloc HR.out _); (case aB => exact HB.out); (case aF => exact (fun _ _ => trivial)); (case aO => exact HO.out); (case aS => exact HB.out.size); (case aL => simp; omega); intro v1 w4 ho hb hgr hat; have HO4 := hid ho; have HB4 := hid hb; clear ho hb hgr hat)
  go_ret
  exact ⟨_, rfl, HO4.out, HB4.out⟩
theorem there_any (id m u b c z s me o a l : Int) (x v : Value) (A : Option Addr) (n k : Nat) (i : Int) (w : World) :
  Calls Try.prog 83 #[modV id m u b c z s me o a l x (.slice A n k) v, .int .i64 i] w fun e w' => e = .returned (.bool (decide (0 <= i /\ i < (n : Int)))) /\ Below w.heap.size w w' := by
 by_cases h0 : 0 <= i
 ·
  have b0 : decide (0 <= i) = true := decide_eq_true h0
  by_cases h1 : i < (n : Int)
  ·
   have b1 : decide (i < (n : Int)) = true := decide_eq_true h1
   have B := hid (Below.refl w.heap.size w)
   go_enter Try.func83, Try.ntmps83
   go_wp2_with first
    | ((with_reducible refine jD_ (N := 2) rfl ?_); go_loud (refine jB_ ?hg (N := 2) ?hd (cs := #[.int .i64 id, .int .i64 m, .int .i64 u, .int .i64 b, .int .i64 c, .int .i64 z, .int .i64 s, .int .i64 me, .int .i64 o, .int .i64 a, .int .i64 l, x, .slice A n k, v]) (t := 53) ?hr ?_; (case hd => rfl); (case hg => rfl); (case hr => first | (go_simp; done) | (go_simp; rfl)); intro gM hg W1 hbox hb; have GM := hid (show w.heap.size <= gM by rw [hg]; exact B.out.size); replace B := hid (jc_ B.out hb); have M := hid hbox; clear hb hbox hg; obtain ⟨m0, m1, m2, m3, m4, m5, m6, m7, m8, m9, m10, m11, m12, m13⟩ := mz14 M.out))
   go_ret
   exact ⟨by simp [*], B.out⟩
  ·
   have b1 : decide (i < (n : Int)) = false := decide_eq_false h1
   have B := hid (Below.refl w.heap.size w)
   go_enter Try.func83, Try.ntmps83
   go_wp2_with first
    | ((with_reducible refine jD_ (N := 2) rfl ?_); go_loud (refine jB_ ?hg (N := 2) ?hd (cs := #[.int .i64 id, .int .i64 m, .int .i64 u, .int .i64 b, .int .i64 c, .int .i64 z, .int .i64 s, .int .i64 me, .int .i64 o, .int .i64 a, .int .i64 l, x, .slice A n k, v]) (t := 53) ?hr ?_; (case hd => rfl); (case hg => rfl); (case hr => first | (go_simp; done) | (go_simp; rfl)); intro gM hg W1 hbox hb; have GM := hid (show w.heap.size <= gM by rw [hg]; exact B.out.size); replace B := hid (jc_ B.out hb); have M := hid hbox; clear hb hbox hg; obtain ⟨m0, m1, m2, m3, m4, m5, m6, m7, m8, m9, m10, m11, m12, m13⟩ := mz14 M.out))
   go_ret
   exact ⟨by simp [*], B.out⟩
 ·
  have b0 : decide (0 <= i) = false := decide_eq_false h0
  have B := hid (Below.refl w.heap.size w)
  go_enter Try.func83, Try.ntmps83
  go_wp2_with first
   | ((with_reducible refine jD_ (N := 2) rfl ?_); go_loud (refine jB_ ?hg (N := 2) ?hd (cs := #[.int .i64 id, .int .i64 m, .int .i64 u, .int .i64 b, .int .i64 c, .int .i64 z, .int .i64 s, .int .i64 me, .int .i64 o, .int .i64 a, .int .i64 l, x, .slice A n k, v]) (t := 53) ?hr ?_; (case hd => rfl); (case hg => rfl); (case hr => first | (go_simp; done) | (go_simp; rfl)); intro gM hg W1 hbox hb; have GM := hid (show w.heap.size <= gM by rw [hg]; exact B.out.size); replace B := hid (jc_ B.out hb); have M := hid hbox; clear hb hbox hg; obtain ⟨m0, m1, m2, m3, m4, m5, m6, m7, m8, m9, m10, m11, m12, m13⟩ := mz14 M.out))
  go_ret
  exact ⟨by simp [*], B.out⟩
theorem kG_ (id m u b c z s me o a l : Int) (A1 A2 A3 : Option Addr) (n1 k1 n2 k2 n3 k3 : Nat) (e : Int) (w : World) :
  Calls Try.prog 73 #[modV id m u b c z s me o a l (.slice A1 n1 k1) (.slice A2 n2 k2) (.slice A3 n3 k3), .int .i64 e] w fun r w' => r = .returned (.tuple #[modV id m u b c z s me o a l (.slice A1 n1 k1) (.slice A2 n2 k2) (.slice A3 n3 k3), repV e (.slice none 0 0) 0 0 0]) /\ Below w.heap.size w w' := by
 have B := hid (Below.refl w.heap.size w)
 go_enter Try.func73, Try.ntmps73
 go_wp2_with first
  | ((with_reducible refine jD_ (N := 2) rfl ?_); go_loud (refine jB_ ?hg (N := 2) ?hd (cs := #[.int .i64 id, .int .i64 m, .int .i64 u, .int .i64 b, .int .i64 c, .int .i64 z, .int .i64 s, .int .i64 me, .int .i64 o, .int .i64 a, .int .i64 l, .slice A1 n1 k1, .slice A2 n2 k2, .slice A3 n3 k3]) (t := 53) ?hr ?_; (case hd => rfl); (case hg => rfl); (case hr => first | (go_simp; done) | (go_simp; rfl)); intro gM hg W1 hbox hb; have GM := hid (show w.heap.size <= gM by rw [hg]; exact B.out.size); replace B := hid (jc_ B.out hb); have M := hid hbox; clear hb hbox hg; obtain ⟨m0, m1, m2, m3, m4, m5, m6, m7, m8, m9, m10, m11, m12, m13⟩ := mz14 M.out))
  | ((with_reducible refine jD_ (N := 4) rfl ?_); go_loud (refine jB_ ?hg (N := 4) ?hd (cs := #[.int .i64 0, .int .i64 0, .int .i64 0, .int .i64 0, .int .i64 0, .int .i64 0, .int .i64 0, .int .i64 0, .int .i64 0, .int .i64 0, .int .i64 0, .slice none 0 0, .slice none 0 0, .slice none 0 0]) (t := 53) ?hr ?_; (case hd => rfl); (case hg => rfl); (case hr => first | (go_simp; done) | (go_simp; rfl)); intro gR hg W2 hbox hb; clear m0 m1 m2 m3 m4 m5 m6 m7 m8 m9 m10 m11 m12 m13; have nMR := hid (show gM ≠ gR by rw [hg]; exact Nat.ne_of_lt (jX_ M.out)); have nRM := hid nMR.out.symm; have GR := hid (show w.heap.size <= gR by rw [hg]; exact B.out.size); replace M := hid (jb_ M.out hb); replace B := hid (jc_ B.out hb); have R := hid hbox; clear hb hbox hg; obtain ⟨m0, m1, m2, m3, m4, m5, m6, m7, m8, m9, m10, m11, m12, m13⟩ := mz14 M.out))
  | ((with_reducible refine jD_ (N := 5) rfl ?_); go_loud (refine jB_ ?hg (N := 5) ?hd (cs := #[.int .i64 0, .slice none 0 0, .int .i64 0, .int .i64 0, .int .i64 0]) (t := 61) ?hr ?_; (case hd => rfl); (case hg => rfl); (case hr => first | (go_simp; done) | (go_simp; rfl)); intro gP hg W3 hbox hb; clear m0 m1 m2 m3 m4 m5 m6 m7 m8 m9 m10 m11 m12 m13; have nMP := hid (show gM ≠ gP by rw [hg]; exact Nat.ne_of_lt (jX_ M.out)); have nPM := hid nMP.out.symm; have nRP := hid (show gR ≠ gP by rw [hg]; exact Nat.ne_of_lt (jX_ R.out)); have nPR := hid nRP.out.symm; have GP := hid (show w.heap.size <= gP by rw [hg]; exact B.out.size); replace M := hid (jb_ M.out hb); replace R := hid (jb_ R.out hb); replace B := hid (jc_ B.out hb); have P := hid hbox; clear hb hbox hg; obtain ⟨m0, m1, m2, m3, m4, m5, m6, m7, m8, m9, m10, m11, m12, m13⟩ := mz14 M.out))
  | ((with_reducible refine gate_store (t := 53) (p := 4) rfl ?_); go_loud (obtain ⟨f0, f1, f2, f3, f4, f5, f6, f7, f8, f9, f10, f11, f12, f13⟩ := mf14 R.out; obtain ⟨e0, e1, e2, e3, e4, e5, e6, e7, e8, e9, e10, e11, e12, e13⟩ := mz14 R.out; refine yi_ (t := 53) (p := 4) (v := ?vo_W4) (w1 := W3.setCells gR 0 [.int .i64 id, .int .i64 m, .int .i64 u, .int .i64 b, .int .i64 c, .int .i64 z, .int .i64 s, .int .i64 me, .int .i64 o, .int .i64 a, .int .i64 l, .slice A1 n1 k1, .slice A2 n2 k2, .slice A3 n3 k3]) ?hg ?ho ?hn ?hr ?_; (case ho => rfl); (case hg => rfl); (case hn => rfl); (case hr => first | (go_simp; done) | (go_simp; rfl)); intro W4 hw; clear f0 e0 f1 e1 f2 e2 f3 e3 f4 e4 f5 e5 f6 e6 f7 e7 f8 e8 f9 e9 f10 e10 f11 e11 f12 e12 f13 e13; clear m0 m1 m2 m3 m4 m5 m6 m7 m8 m9 m10 m11 m12 m13; replace M := hid (st_far hw M.out nMR.out); replace P := hid (st_far hw P.out nPR.out); replace R := hid (st_put hw R.out (cs' := #[.int .i64 id, .int .i64 m, .int .i64 u, .int .i64 b, .int .i64 c, .int .i64 z, .int .i64 s, .int .i64 me, .int .i64 o, .int .i64 a, .int .i64 l, .slice A1 n1 k1, .slice A2 n2 k2, .slice A3 n3 k3]) rfl rfl); replace B := hid (st_B hw B.out GR.out); clear hw; obtain ⟨m0, m1, m2, m3, m4, m5, m6, m7, m8, m9, m10, m11, m12, m13⟩ := mz14 M.out))
  | ((with_reducible refine gate_store (t := 61) (p := 5) rfl ?_); go_loud (obtain ⟨f0, f1, f2, f3, f4⟩ := mf5 P.out; obtain ⟨e0, e1, e2, e3, e4⟩ := mz5 P.out; refine yi_ (t := 61) (p := 5) (v := ?vo_W5) (w1 := W4.setCells gP 0 [.int .i64 e, .slice none 0 0, .int .i64 0, .int .i64 0, .int .i64 0]) ?hg ?ho ?hn ?hr ?_; (case ho => rfl); (case hg => rfl); (case hn => rfl); (case hr => first | (go_simp; done) | (go_simp; rfl)); intro W5 hw; clear f0 e0 f1 e1 f2 e2 f3 e3 f4 e4; clear m0 m1 m2 m3 m4 m5 m6 m7 m8 m9 m10 m11 m12 m13; replace M := hid (st_far hw M.out nMP.out); replace R := hid (st_far hw R.out nRP.out); replace P := hid (st_put hw P.out (cs' := #[.int .i64 e, .slice none 0 0, .int .i64 0, .int .i64 0, .int .i64 0]) rfl rfl); replace B := hid (st_B hw B.out GP.out); clear hw; obtain ⟨m0, m1, m2, m3, m4, m5, m6, m7, m8, m9, m10, m11, m12, m13⟩ := mz14 M.out))
 refine bodyPost_ret (jG_ rfl _ _ gR gP 53 61 #[.int .i64 id, .int .i64 m, .int .i64 u, .int .i64 b, .int .i64 c, .int .i64 z, .int .i64 s, .int .i64 me, .int .i64 o, .int .i64 a, .int .i64 l, .slice A1 n1 k1, .slice A2 n2 k2, .slice A3 n3 k3] #[.int .i64 e, .slice none 0 0, .int .i64 0, .int .i64 0, .int .i64 0] (0, 0) (0, 0) _ _ rfl R.out Try.underlying53 rfl (by kernel_rfl) rfl P.out Try.underlying61 rfl (by kernel_rfl)) rfl ?_
 exact ⟨rfl, B.out⟩
end Go.Proofs.Ytgckcaoncjhgbaa
