/- The document's answer to a command, opened. -/
/- Words for the walks of the laws of package model: a model in rows that stay, commands that came, how much is much. -/
import Derived.Test.YtgckcaoncjhgbaaFMc
import Derived.Test.YtgckcaoncjhgbaaMdDo
import Derived.Test.YtgckcaoncjhgbaaFMd
open Go.Lib (hid)
namespace Go.Proofs.Ytgckcaoncjhgbaa
open Go.RowKit Go.Proofs.Ytgckcaoncjhgbaa.PL Go.Proofs.YtgckcaoncjhgbaaW.PrintWords Go.Proofs.YtgckcaoncjhgbaaW.PrintLast
set_option linter.unusedVariables false
set_option linter.unusedSimpArgs false
attribute [local go_sem] List.getElem?_toArray List.getElem?_cons_succ List.getElem?_cons_zero mL tL cL xL rL oL
theorem yJ_ {id m u b c z s me o a l : Int} {A1 A2 A3 : Option Addr} {n1 k1 n2 k2 n3 k3 : Nat} {D N : Mdl} {E : Int} {t : ByteArray} {zn : S59} {w : World} {e : Ending} {w' : World} (h : RsP id m u b c z s me o a l (.slice A1 n1 k1) (.slice A2 n2 k2) (.slice A3 n3 k3) D (N, E, t, zn) w e w') :
  ∃ (B1 : Option Addr) (m1 j1 : Nat) (B2 : Option Addr) (m2 j2 : Nat) (B3 : Option Addr) (m3 j3 : Nat), e = .returned (.tuple #[modV id m u b c z s me o a l (.slice B1 m1 j1) (.slice B2 m2 j2) (.slice B3 m3 j3), .int .i64 E, .string t, zoV zn]) /\ MD w.heap.size w' (.slice A1 n1 k1) (.slice A2 n2 k2) (.slice A3 n3 k3) D (.slice B1 m1 j1) (.slice B2 m2 j2) (.slice B3 m3 j3) N /\ Below w.heap.size w w' := by
 obtain ⟨x', y', q', he, hM, hb⟩ := h
 obtain ⟨B1, m1, j1, rfl⟩ := vK_ hM.1
 obtain ⟨B2, m2, j2, rfl⟩ := vK_ hM.2.1
 obtain ⟨B3, m3, j3, rfl⟩ := vK_ hM.2.2
 exact ⟨_, _, _, _, _, _, _, _, _, he, hM, hb⟩
def MrF (base : Nat) (x y q : Value) (D : Mdl) : Fct where
 P := fun W => MR base W x y q D
 T := [59, 9, 3]
 below := fun hb h => ⟨Kd.R_below h.1 hb, Kd.R_below h.2.1 hb, Kd.R_below h.2.2 hb⟩
 set := fun hw hb ht h => by
  have hn := vJ_ ht
  refine ⟨st_R hw h.1 hb (fun q hq => hn q ?_), st_R hw h.2.1 hb (fun q hq => hn q ?_), st_R hw h.2.2 hb (fun q hq => hn q ?_)⟩
  ·
   have h2 : q ∈ [59] := hq
   rw [List.mem_singleton.1 h2]; decide
  ·
   have h2 : q ∈ [9] := hq
   rw [List.mem_singleton.1 h2]; decide
  ·
   have h2 : q ∈ [3] := hq
   rw [List.mem_singleton.1 h2]; decide
section
variable {P : Program} {ops : Array Oper} {rest : List Oper} {o : Oper} {a : Act} {Q : Exit -> Act -> World -> Prop} {Kc : Act -> World -> Prop} {w W : World} {bs : List Blk} {fs : List Fct} {q : Nat} {cs : Array Value} {v : Operand}
theorem shzs (H : Hid (Pk w W bs fs)) (k t p g : Nat) (ys : List Value) (hF : ∀ w', w' = W.setCells g 0 ys -> ∀ f ∈ fs, f.P w') (hk : bs[k]? = some ⟨g, q, cs⟩ := by rfl) (ho : o.op = .store t (.tmp p) v := by rfl) (hgd : Region.wanted o (yielded ops a.tmps) = true := by rfl) (hN : o.dst = none := by rfl) (hrun : (∀ i, W.frozen? ⟨g, i, none⟩ = false) -> (execOp a.eval o).run P W = .ok .skip (W.setCells g 0 ys) := by (intro f_; first | (go_simp; done) | (go_simp; rfl))) (hl : ys.length = cs.size := by rfl) (h : ∀ w', Hid (Pk w w' (bs.set k ⟨g, q, ys.toArray⟩) fs) -> Kc a w') : if Region.wanted o (yielded ops a.tmps) = true then Oper.wp P o a W Kc Q else Kc (a.put none undef) W :=
 svs t p g 0 ys ho hgd hN (hrun (H.out.froz k hk)) (fun w' hw => h w' (by
  have h1 : Pk w w' (bs.set k ⟨g, q, ys.toArray⟩) [] := (Pk.mk H.out.below H.out.blk H.out.ne (by simp) : Pk w W bs []).putw k hk hw hl rfl
  exact hid ⟨h1.below, h1.blk, h1.ne, hF w' hw⟩))
theorem fnil {w : World} : ∀ f ∈ ([] : List Fct), f.P w := by simp
theorem fcons {w : World} {f : Fct} {fs : List Fct} (h : f.P w) (hs : ∀ f ∈ fs, f.P w) : ∀ q ∈ f :: fs, q.P w := by
 intro q hq
 rcases List.mem_cons.1 hq with rfl | hq
 · exact h
 · exact hs q hq
end
theorem ze_ {base g : Nat} {W : World} {x y q : Value} {D : Mdl} (h : MR base W x y q D) (hg : W.heap.size <= g) : x.ownBlock ≠ some g := fun e => by have := Kd.R_lt h.1 g e; omega
theorem mrd_far {base g : Nat} {w : World} {x0 y0 q0 x y q : Value} {D N : Mdl} (h : MD base w x0 y0 q0 D x y q N) (h0 : x0.ownBlock ≠ some g) (hg : g < base) : x.ownBlock ≠ some g := by
 rcases h.1 with ⟨e, _⟩ | h
 · rw [e]; exact h0
 · exact fun e => by have := Kd.R_base h g e; omega
theorem mrf_set {base g : Nat} {W w' : World} {x y q : Value} {D : Mdl} {ys : List Value} {cs : Array Value} (hw : w' = W.setCells g 0 ys) (h : MR base W x y q D) (hn : x.ownBlock ≠ some g) (hb : W.heap[g]? = some (.cells cs 59 (0, 0))) : MR base w' x y q D := by
 refine ⟨?_, st_R hw h.2.1 hb (fun q hq => ?_), st_R hw h.2.2 hb (fun q hq => ?_)⟩
 ·
  obtain ⟨_, inner, ho, hr⟩ := h.1
  have h1 : Kd.R k59 59 W base (fun k => k ≠ g) x D.L := ⟨fun k hk e => hn (by rw [hk, e]), inner, ho, hr.imp_ (fun _ _ h => by rw [k59_openM h]; exact k59_mkM _ _ _ _)⟩
  exact Kd.R_mono (st_RF hw h1 (fun k hk => hk)) (fun _ _ => trivial)
 ·
  have h2 : q ∈ [9] := hq
  rw [List.mem_singleton.1 h2]; decide
 ·
  have h2 : q ∈ [3] := hq
  rw [List.mem_singleton.1 h2]; decide
theorem MR_lower {base base' : Nat} {w : World} {x y q : Value} {D : Mdl} (h : MR base w x y q D) (hb : base' <= base) : MR base' w x y q D := ⟨Kd.R_lower h.1 hb, Kd.R_lower h.2.1 hb, Kd.R_lower h.2.2 hb⟩
theorem MR_shape {base : Nat} {w : World} {x y q : Value} {D : Mdl} (h : MR base w x y q D) : ∃ (A1 : Option Addr) (n1 k1 : Nat) (A2 : Option Addr) (n2 k2 : Nat) (A3 : Option Addr) (n3 k3 : Nat), x = .slice A1 n1 k1 /\ y = .slice A2 n2 k2 /\ q = .slice A3 n3 k3 := by
 obtain ⟨A1, k1, h1⟩ := Kd.R_slice h.1
 obtain ⟨A2, k2, h2⟩ := Kd.R_slice h.2.1
 obtain ⟨A3, k3, h3⟩ := Kd.R_slice h.2.2
 exact ⟨_, _, _, _, _, _, _, _, _, h1, h2, h3⟩
theorem cmd_at {W : World} {A : Option Addr} {n : Nat} {xs : List S65} (h : Kd.C k65 W A n xs) (j : Nat) (hj : j < n) : ∃ ad A4 c4, A = some ad /\ (jk_ xs j).f4.length <= c4 /\ (∀ {W' : World}, Below W.heap.size W W' -> Kd.C (Kd.int .u8) W' A4 (jk_ xs j).f4.length (jk_ xs j).f4 /\ W'.cell? (ad.add (j * 6)) = some (.int .i64 (jk_ xs j).f0) /\ W'.cell? ⟨(ad.add (j * 6)).block, (ad.add (j * 6)).off + 1, none⟩ = some (.int .i64 (jk_ xs j).f1) /\ W'.cell? ⟨(ad.add (j * 6)).block, (ad.add (j * 6)).off + 2, none⟩ = some (.int .i64 (jk_ xs j).f2) /\ W'.cell? ⟨(ad.add (j * 6)).block, (ad.add (j * 6)).off + 3, none⟩ = some (.int .i64 (jk_ xs j).f3) /\ W'.cell? ⟨(ad.add (j * 6)).block, (ad.add (j * 6)).off + 4, none⟩ = some (.slice A4 (jk_ xs j).f4.length c4) /\ W'.cell? ⟨(ad.add (j * 6)).block, (ad.add (j * 6)).off + 5, none⟩ = some (.bool (jk_ xs j).f5)) := by
 obtain ⟨ad, A4, c4, e, h0, h1, h2, h3, h4, h5, hl, hC⟩ := at_T65 h (j : Int) (by omega) (by omega)
 have up : ∀ {W' : World} {p : Addr} {v : Value}, Below W.heap.size W W' -> W.cell? p = some v -> W'.cell? p = some v := fun hb hp => (hb.cell (World.block_lt_of_cell? _ _ hp)).trans hp
 exact ⟨ad, A4, c4, e, hl, fun hb => ⟨Kd.C_below hC hb, up hb h0, up hb h1, up hb h2, up hb h3, up hb h4, up hb h5⟩⟩
theorem minv_new (id m u b c z s me o a l : Int) (hk : jn_ id m u b c z s me o a l = 0) : zZ_ id m u b c z s me o a l ⟨List.replicate z.toNat z59, List.replicate z.toNat ByteArray.empty, List.replicate z.toNat 0⟩ := by
 have hI := Geo.inv_new hk
 refine ⟨⟨hI.1, by simp, by simp, fun j hj => ?_⟩, hI⟩
 have hj2 : j < z.toNat := by simpa using hj
 have e1 : rdOf default (List.replicate z.toNat ByteArray.empty) (j : Int) = ByteArray.empty := by simp [rdOf, List.getD_eq_getElem?_getD, hj2]
 have e2 : jl_ (List.replicate z.toNat z59) (j : Int) = z59 := by simp [jl_, List.getD_eq_getElem?_getD, hj2]
 have e3 : rdOf default (List.replicate z.toNat (0 : Int)) (j : Int) = 0 := by simp [rdOf, List.getD_eq_getElem?_getD, hj2]
 show ((rdOf default (List.replicate z.toNat ByteArray.empty) (j : Int)).size : Int) = (jl_ (List.replicate z.toNat z59) (j : Int)).f1 * b /\ 0 <= rdOf default (List.replicate z.toNat (0 : Int)) (j : Int) /\ rdOf default (List.replicate z.toNat (0 : Int)) (j : Int) <= (jl_ (List.replicate z.toNat z59) (j : Int)).f1
 rw [e1, e2, e3]
 exact ⟨by show (0 : Int) = 0 * b; omega, Int.le_refl 0, Int.le_refl 0⟩
end Go.Proofs.Ytgckcaoncjhgbaa
