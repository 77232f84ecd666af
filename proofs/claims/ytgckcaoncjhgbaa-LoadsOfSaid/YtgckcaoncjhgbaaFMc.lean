/- revetmentref18.all: all is safe; words for the document's model. -/
/- revetmentref18.text, safe: a zone has another text, another number of safe blocks. -/
import Derived.Test.YtgckcaoncjhgbaaMdBase
import Derived.Test.YtgckcaoncjhgbaaFMa
set_option maxHeartbeats 1000000
set_option maxRecDepth 100000
open Go.Lib (hid)
namespace Go.Proofs.Ytgckcaoncjhgbaa
open Go.RowKit Go.Proofs.Ytgckcaoncjhgbaa.PL Go.Proofs.YtgckcaoncjhgbaaW.PrintWords Go.Proofs.YtgckcaoncjhgbaaW.PrintLast
set_option linter.unusedVariables false
set_option linter.unusedSimpArgs false
attribute [local go_sem] List.getElem?_toArray List.getElem?_cons_succ List.getElem?_cons_zero mL tL cL xL rL oL
theorem jJ_ {P : Program} {fn : Func} {p u v p' : Tmp} {ty ty' : TypeId} (h : fn.results = #[.cell p ty, .tmp u, .tmp v, .cell p' ty']) (tmps : Array Value) (w : World) (g g' : Nat) (t t' : TypeId) (cs cs' : Array Value) (fr fr' : Nat × Nat) (d d' : TypeDesc)
  (hp : tmps.getD p undef = .pointer (some ⟨g, 0, none⟩)) (hg : w.heap[g]? = some (.cells cs t fr))
  (hu : P.underlying ty = some d) (hd : (match d with | .struct _ | .array _ _ => true | _ => false) = true) (hi : (P.info? ty).map (·.size) = some cs.size)
  (hp' : tmps.getD p' undef = .pointer (some ⟨g', 0, none⟩)) (hg' : w.heap[g']? = some (.cells cs' t' fr'))
  (hu' : P.underlying ty' = some d') (hd' : (match d' with | .struct _ | .array _ _ => true | _ => false) = true) (hi' : (P.info? ty').map (·.size) = some cs'.size) :
  (results fn tmps).run P w = .ok (.tuple #[.agg cs, tmps.getD u undef, tmps.getD v undef, .agg cs']) w := by
 have h1 : tmps[p]?.getD undef = .pointer (some ⟨g, 0, none⟩) := by simpa using hp
 have h2 : tmps[p']?.getD undef = .pointer (some ⟨g', 0, none⟩) := by simpa using hp'
 simp [results, h, h1, h2, asAddr, run_loadVar_row w g t ty cs fr d hg hu hd hi, run_loadVar_row w g' t' ty' cs' fr' d' hg' hu' hd' hi']
def RsP (id m u b c z s me o a l : Int) (x y q : Value) (D : Mdl) (r : Mdl × Int × ByteArray × S59) (w : World) (e : Ending) (w' : World) : Prop :=
 ∃ x' y' q' : Value, e = .returned (.tuple #[modV id m u b c z s me o a l x' y' q', .int .i64 r.2.1, .string r.2.2.1, zoV r.2.2.2]) /\ MD w.heap.size w' x y q D x' y' q' r.1 /\ Below w.heap.size w w'
theorem vl_ {id m u b c z s me o a l : Int} {x y q : Value} {D N : Mdl} {E : Int} {t : ByteArray} {zn : S59} {r : Mdl × Int × ByteArray × S59} {w : World} {e : Ending} {w' : World} {x' y' q' : Value} (hr : r = (N, E, t, zn)) (h1 : e = .returned (.tuple #[modV id m u b c z s me o a l x' y' q', .int .i64 E, .string t, zoV zn])) (h2 : MD w.heap.size w' x y q D x' y' q' N) (h4 : Below w.heap.size w w') : RsP id m u b c z s me o a l x y q D r w e w' := by
 subst hr; exact ⟨_, _, _, h1, h2, h4⟩
def RdF {α : Type} (k : Kd α) (e base : Nat) (v0 : Value) (l0 : List α) (v : Value) (l : List α) : Fct where
 P := fun W => RowD k e base W v0 l0 v l
 T := e :: k.E
 below := fun hb h => yd_ h hb
 set := fun hw hb ht h => RowD_st hw h hb (vJ_ ht)
theorem vV_ {id m u b c z s me o a l : Int} {L L1 : List S59} {A : Option Addr} {n k base : Nat} {W : World} {v : Value} (h : TabD id m u b c z s me o a l (some L1) L (.slice A n k) base W v) (hn : n = L.length) : ∃ (A' : Option Addr) (k' : Nat), v = tabV id m u b c z s me o a l (.slice A' L1.length k') /\ RowD k59 59 base W (.slice A n k) L (.slice A' L1.length k') L1 := by
 rcases h with (⟨h, _⟩ | ⟨L', y, h1, rfl, h2⟩) | ⟨h1, rfl⟩
 · cases h
 ·
  cases h1
  obtain ⟨A', k', rfl⟩ := Kd.R_slice h2
  exact ⟨A', k', rfl, .inr h2⟩
 ·
  cases h1
  subst hn
  exact ⟨A, k, rfl, .inl ⟨rfl, rfl⟩⟩
theorem yY_ {id m u b c z s me o a l : Int} {L : List S59} {sl v : Value} {base : Nat} {W : World} (h : TabD id m u b c z s me o a l none L sl base W v) : v = tabV 0 0 0 0 0 0 0 0 0 0 0 (.slice none 0 0) := by
 rcases h with (⟨_, h⟩ | ⟨L', y, h1, _⟩) | ⟨h1, _⟩
 · exact h
 · cases h1
 · cases h1
theorem Pk_own {α : Type} {d : Kd α} {e base : Nat} {ok : Nat -> Prop} {w W W1 : World} {v : Value} {xs : List α} {bs : List Blk} (h : Pk w W bs []) (hr : d.R e W base ok v xs) (hg : W.grownBy W1 v.ownBlock) (hb : Below w.heap.size w W1) (hB : bs.all (fun b => !(b.t == e)) = true) : Pk w W1 bs [] := by
 refine ⟨hb, fun c hm => ⟨?_, (h.blk c hm).2⟩, h.ne, fun f hf => by cases hf⟩
 have ht : e ≠ c.t := fun q => by have := List.all_eq_true.1 hB c hm; rw [q] at this; simp at this
 exact (hg.block c.g (jX_ (h.blk c hm).1) (Kd.R_ne hr (h.blk c hm).1 ht)).trans (h.blk c hm).1
theorem rall_any (id m u b c z s me o a l : Int) (x y q : Value) (D : Mdl) (w : World) (h : MC w x y q D) (hl : D.L.length < 1000000000) :
  Calls Try.prog 79 #[modV id m u b c z s me o a l x y q] w fun e w' => ∃ q' : Value, e = .returned (modV id m u b c z s me o a l x y q') /\ Kd.R (Kd.int .i64) 3 w' w.heap.size (fun _ => True) q' (D.L.map (·.f1)) /\ Below w.heap.size w w' := by
 have H := hid (Pk.start w)
 obtain ⟨⟨A1, k1, rfl, hk1, hC1⟩, ⟨A2, k2, rfl, hk2, hC2⟩, ⟨A3, k3, rfl, hk3, hC3⟩⟩ := h
 obtain ⟨n1, hn1⟩ : ∃ n, n = D.L.length := ⟨_, rfl⟩
 obtain ⟨n2, hn2⟩ : ∃ n, n = D.T.length := ⟨_, rfl⟩
 obtain ⟨n3, hn3⟩ : ∃ n, n = D.S.length := ⟨_, rfl⟩
 obtain ⟨Y, hY⟩ : ∃ Y, Y = D.L.map (·.f1) := ⟨_, rfl⟩
 have hyl : Y.length = D.L.length := by rw [hY, List.length_map]
 have hrd : ∀ (j : Nat) (h : j < Y.length), (jl_ D.L (j : Int)).f1 = Y[j] := by subst hY; intro j h; exact rd_map h
 rw [<- hY, <- hn1, <- hn2, <- hn3]
 rw [<- hn1] at hC1 hl hyl
 have HC1 := hid hC1; have HYL := hid hyl; have HRD := hid hrd
 clear hC1 hC2 hC3 hn1 hn2 hn3 hk1 hk2 hk3 hY hyl hrd
 go_enter Try.func79, Try.ntmps79
 go_wp2_with first
  | (apply bh H 1 (mL id m u b c z s me o a l (.slice A1 n1 k1) (.slice A2 n2 k2) (.slice A3 n3 k3)) 68; clear H; intro gM W1 H; obtain ⟨-, cM⟩ := n1_ H)
  | (apply bh H 2 (mL 0 0 0 0 0 0 0 0 0 0 0 nil_ nil_ nil_) 68; clear H cM; intro gR W2 H; obtain ⟨-, cR, cM⟩ := n2_ H)
 go_loopw [3, 4] (fun v3 v4 wr => ∃ j : Nat, v4 = .int .i64 j /\ j <= n1 /\ Hid (Kd.R (Kd.int .i64) 3 wr w.heap.size (fun _ => True) v3 (Y.take j)) /\ Hid (Pk w wr [⟨gR, 68, (mL 0 0 0 0 0 0 0 0 0 0 0 nil_ nil_ nil_).toArray⟩, ⟨gM, 68, (mL id m u b c z s me o a l (.slice A1 n1 k1) (.slice A2 n2 k2) (.slice A3 n3 k3)).toArray⟩] [])) (fun v3 v4 _ => ((n1 : Int) - intOf v4).toNat)
 case atStart => exact ⟨0, rfl, by omega, hid (Kd.R_nil _ _ _ _ _), H⟩
 case round =>
  clear H cR cM
  obtain ⟨j, rfl, hj, HO, H⟩ := hrel
  by_cases hlt : j < n1
  ·
   have c1 : (j : Int) < (n1 : Int) := by omega
   obtain ⟨ad, e⟩ := xI_ (Kd.C_below HC1.out H.out.below) (by omega)
   subst e
   have q1 : (0 : Int) <= (j : Int) := by omega
   have e2 : wrap64 ((j : Int) + 1) = ((j + 1 : Nat) : Int) := by unfold wrap64; push_cast; omega
   have HE2 := hid e2; clear e2
   have htl : (Y.take j).length <= j := List.length_take_le _ _
   obtain ⟨-, cR, cM⟩ := n2_ H
   have zc := yK_ (Kd.C_below HC1.out H.out.below) j hlt
   go_wp2_with first
    | ((with_reducible refine ki_ (b := .append) (xs := #[.tmp 13, .tmp 21]) rfl ?_); at_builtin; refine Kd.R_append (Kd.int .i64) (w0 := w) w.heap.size rfl (.tmp 13) (.tmp 21) 51 3 (.int .i64 0) 8 rfl Try.underlying51 zN_ rfl (by decide) (by omega) _ (Y.take j) (jl_ D.L (j : Int)).f1 [.int .i64 (jl_ D.L (j : Int)).f1] (fun _ => True) (fun _ => False) rfl (by first | (go_simp; done) | (go_simp; rfl)) ?aP (fun _ hk => hk.elim) (fun _ _ => trivial) HO.out H.out.below H.out.below.size (by omega) ?_; (case aP => exact rfl); intro v1 W21 ho hb hgr hat; replace H := hid (Pk_own H.out HO.out hgr hb rfl); have HO2 := hid ho; clear ho hb hgr hat; clear cR cM zc; obtain ⟨-, cR, cM⟩ := n2_ H)
   exact ⟨⟨j + 1, rfl, by omega, hid (by rw [List.take_succ_eq_append_getElem (by rw [HYL.out]; exact hlt), <- HRD.out j (by rw [HYL.out]; exact hlt)]; exact HO2.out), H⟩, by simp only [intOf]; push_cast; omega⟩
  ·
   have c1 : ¬ (j : Int) < (n1 : Int) := by omega
   obtain rfl : n1 = j := by omega
   have HO1 := hid (by have h := HO.out; rw [List.take_of_length_le (by rw [HYL.out]; exact Nat.le_refl _)] at h; exact h)
   clear HO
   obtain ⟨AF, kF, rfl⟩ := Kd.R_slice HO1.out
   replace H := hid (H.out.row (RowF (Kd.int .i64) 3 w.heap.size (.slice AF Y.length kF) Y) HO1.out)
   obtain ⟨-, cR, cM⟩ := n2_ H
   go_wp2_with first
    | (apply sp H 1 51 24 gM 13 [.slice AF Y.length kF] (mL id m u b c z s me o a l (.slice A1 n1 k1) (.slice A2 n2 k2) (.slice AF Y.length kF)); clear H cR cM; intro W21 K_; obtain ⟨H, cR, cM⟩ := n2_ K_; clear K_)
    | (apply sh H 0 68 2 gR (mL id m u b c z s me o a l (.slice A1 n1 k1) (.slice A2 n2 k2) (.slice AF Y.length kF)); clear H cR cM; intro W22 K_; obtain ⟨H, cR, cM⟩ := n2_ K_; clear K_)
   refine bodyPost_ret (results_cell_row rfl _ _ gR 68 (mL id m u b c z s me o a l (.slice A1 n1 k1) (.slice A2 n2 k2) (.slice AF Y.length kF)).toArray (0, 0) _ rfl (H.out.at_ 0 rfl) Try.underlying68 rfl (by kernel_rfl)) rfl ?_
   exact ⟨_, rfl, (H.out.fact 0 rfl), H.out.below⟩
theorem zD_ (id m u b c z s me o a l : Int) (x y q : Value) (D : Mdl) (i : Int) (y9 : ByteArray) (w : World) (h : MC w x y q D) (i0 : 0 <= i) (i1 : i < (D.T.length : Int)) (hl : D.T.length < 1000000000) :
  Calls Try.prog 78 #[modV id m u b c z s me o a l x y q, .int .i64 i, .string y9] w fun e w' => ∃ v : Value, e = .returned (modV id m u b c z s me o a l x v q) /\ Kd.R Kd.string 9 w' w.heap.size (fun _ => True) v (D.T.set i.toNat y9) /\ Below w.heap.size w w' := by
 have H := hid (Pk.start w)
 obtain ⟨⟨A1, k1, rfl, hk1, hC1⟩, ⟨A2, k2, rfl, hk2, hC2⟩, ⟨A3, k3, rfl, hk3, hC3⟩⟩ := h
 obtain ⟨n1, hn1⟩ : ∃ n, n = D.L.length := ⟨_, rfl⟩
 obtain ⟨n2, hn2⟩ : ∃ n, n = D.T.length := ⟨_, rfl⟩
 obtain ⟨n3, hn3⟩ : ∃ n, n = D.S.length := ⟨_, rfl⟩
 rw [<- hn1, <- hn2, <- hn3]
 rw [<- hn2] at hC2 i1 hl
 have HC := hid hC2
 have HF := hid (fun (base : Nat) (W : World) (v : Value) (h : Kd.R Kd.string 9 W base (fun _ => True) v D.T) (hp : 0 < D.T.length) => Kd.R_form h hp)
 have HN := hid hn2
 clear hC1 hC2 hC3 hn1 hn2 hn3 hk1 hk2 hk3
 go_enter Try.func78, Try.ntmps78
 go_wp2_with first
  | (apply bh H 3 (mL id m u b c z s me o a l (.slice A1 n1 k1) (.slice A2 n2 k2) (.slice A3 n3 k3)) 68; clear H; intro gM W1 H; obtain ⟨-, cM⟩ := n1_ H)
  | (apply bh H 6 (mL 0 0 0 0 0 0 0 0 0 0 0 nil_ nil_ nil_) 68; clear H cM; intro gR W2 H; obtain ⟨-, cR, cM⟩ := n2_ H)
  | ((with_reducible refine jD_ (N := 8) rfl ?_); refine Kd.event_run rfl (v := (.slice (some ⟨W2.heap.size, 0, none⟩) 0 0)) (w1 := W2.alloc (.cells #[] 9)) ?hr ?_; (case hr => first | (go_simp; done) | (go_simp; rfl)); clear cR cM; have hb : Below W2.heap.size W2 (W2.alloc (.cells #[] 9)) := jg_ (Below.refl _ _) _; have hO : Kd.R Kd.string 9 (W2.alloc (.cells #[] 9)) W2.heap.size (fun _ => True) (.slice (some ⟨W2.heap.size, 0, none⟩) 0 0) [] := ⟨fun _ _ => trivial, [], ⟨rfl, .inr ⟨W2.heap.size, 0, #[], rfl, Nat.le_refl _, ju_ W2 _, Nat.le_refl _, by simp [maxLen], rfl, rfl⟩⟩, ⟨rfl, fun j p hj => by simp at hj⟩⟩; generalize W2.alloc (.cells #[] 9) = W3 at hb hO ⊢; have H0 := H; have HO := hid hO; have HB0 := hid hb; replace H := hid (H.out.called hb); clear hb hO; obtain ⟨-, cR, cM⟩ := n2_ H)
  | ((with_reducible refine ki_ (b := .append) (xs := #[.tmp 8, .tmp 10]) rfl ?_); at_builtin; refine Kd.R_append_rows Kd.string (w0 := W2) W2.heap.size rfl (.tmp 8) (.tmp 10) 50 9 (.string ⟨#[]⟩) 16 rfl Try.underlying50 info9 rfl (by decide) (by omega) (.slice (some ⟨W2.heap.size, 0, none⟩) 0 0) [] D.T A2 n2 k2 (fun _ => True) (fun _ => False) rfl rfl HO.out (Kd.C_below HC.out H.out.below) (fun _ _ h => h) (fun _ h => h.elim) (fun _ _ => trivial) HB0.out HB0.out.size (by simp; omega) ?_; intro v_ W4 hR hb hgr_ hat_; clear hgr_ hat_ HO HB0; rw [List.nil_append] at hR; obtain ⟨gT, cgT, rfl, -⟩ := Kd.R_form hR (by rw [<- HN.out]; omega); simp only [<- HN.out] at hR ⊢; clear cR cM; replace H := hid ((H0.out.called hb).row (RowF Kd.string 9 w.heap.size (.slice (some ⟨gT, 0, none⟩) n2 cgT) D.T) (Kd.R_lower hR H0.out.below.size)); clear hb hR H0; obtain ⟨-, cR, cM⟩ := n2_ H)
  | (have hR_ : Kd.R Kd.string 9 W4 w.heap.size (fun _ => True) (.slice (some ⟨gT, 0, none⟩) n2 cgT) D.T := H.out.fact 0 rfl; obtain ⟨ce_, fe_⟩ := elem_at hR_ i i0 i1; clear hR_; apply sv 9 15 gT i.toNat [.string y9]; intro W5 hw; clear ce_ fe_; clear cR cM; replace H := hid (H.out.putE 0 rfl hw rfl rfl); clear hw; obtain ⟨-, cR, cM⟩ := n2_ H)
  | (apply sp H 1 50 17 gM 12 [.slice (some ⟨gT, 0, none⟩) n2 cgT] (mL id m u b c z s me o a l (.slice A1 n1 k1) (.slice (some ⟨gT, 0, none⟩) n2 cgT) (.slice A3 n3 k3)); clear H cR cM; intro W6 K_; obtain ⟨H, cR, cM⟩ := n2_ K_; clear K_)
  | (apply sh H 0 68 6 gR (mL id m u b c z s me o a l (.slice A1 n1 k1) (.slice (some ⟨gT, 0, none⟩) n2 cgT) (.slice A3 n3 k3)); clear H cR cM; intro W7 K_; obtain ⟨H, cR, cM⟩ := n2_ K_; clear K_)
 refine bodyPost_ret (results_cell_row rfl _ _ gR 68 (mL id m u b c z s me o a l (.slice A1 n1 k1) (.slice (some ⟨gT, 0, none⟩) n2 cgT) (.slice A3 n3 k3)).toArray (0, 0) _ rfl (H.out.at_ 0 rfl) Try.underlying68 rfl (by kernel_rfl)) rfl ?_
 exact ⟨_, rfl, (H.out.fact 0 rfl), H.out.below⟩
theorem rsafe_any (id m u b c z s me o a l : Int) (x y q : Value) (D : Mdl) (i : Int) (y9 : Int) (w : World) (h : MC w x y q D) (i0 : 0 <= i) (i1 : i < (D.S.length : Int)) (hl : D.S.length < 1000000000) :
  Calls Try.prog 80 #[modV id m u b c z s me o a l x y q, .int .i64 i, .int .i64 y9] w fun e w' => ∃ v : Value, e = .returned (modV id m u b c z s me o a l x y v) /\ Kd.R (Kd.int .i64) 3 w' w.heap.size (fun _ => True) v (D.S.set i.toNat y9) /\ Below w.heap.size w w' := by
 have H := hid (Pk.start w)
 obtain ⟨⟨A1, k1, rfl, hk1, hC1⟩, ⟨A2, k2, rfl, hk2, hC2⟩, ⟨A3, k3, rfl, hk3, hC3⟩⟩ := h
 obtain ⟨n1, hn1⟩ : ∃ n, n = D.L.length := ⟨_, rfl⟩
 obtain ⟨n2, hn2⟩ : ∃ n, n = D.T.length := ⟨_, rfl⟩
 obtain ⟨n3, hn3⟩ : ∃ n, n = D.S.length := ⟨_, rfl⟩
 rw [<- hn1, <- hn2, <- hn3]
 rw [<- hn3] at hC3 i1 hl
 have HC := hid hC3
 have HF := hid (fun (base : Nat) (W : World) (v : Value) (h : Kd.R (Kd.int .i64) 3 W base (fun _ => True) v D.S) (hp : 0 < D.S.length) => Kd.R_form h hp)
 have HN := hid hn3
 clear hC1 hC2 hC3 hn1 hn2 hn3 hk1 hk2 hk3
 go_enter Try.func80, Try.ntmps80
 go_wp2_with first
  | (apply bh H 3 (mL id m u b c z s me o a l (.slice A1 n1 k1) (.slice A2 n2 k2) (.slice A3 n3 k3)) 68; clear H; intro gM W1 H; obtain ⟨-, cM⟩ := n1_ H)
  | (apply bh H 6 (mL 0 0 0 0 0 0 0 0 0 0 0 nil_ nil_ nil_) 68; clear H cM; intro gR W2 H; obtain ⟨-, cR, cM⟩ := n2_ H)
  | ((with_reducible refine jD_ (N := 8) rfl ?_); refine Kd.event_run rfl (v := (.slice (some ⟨W2.heap.size, 0, none⟩) 0 0)) (w1 := W2.alloc (.cells #[] 3)) ?hr ?_; (case hr => first | (go_simp; done) | (go_simp; rfl)); clear cR cM; have hb : Below W2.heap.size W2 (W2.alloc (.cells #[] 3)) := jg_ (Below.refl _ _) _; have hO : Kd.R (Kd.int .i64) 3 (W2.alloc (.cells #[] 3)) W2.heap.size (fun _ => True) (.slice (some ⟨W2.heap.size, 0, none⟩) 0 0) [] := ⟨fun _ _ => trivial, [], ⟨rfl, .inr ⟨W2.heap.size, 0, #[], rfl, Nat.le_refl _, ju_ W2 _, Nat.le_refl _, by simp [maxLen], rfl, rfl⟩⟩, ⟨rfl, fun j p hj => by simp at hj⟩⟩; generalize W2.alloc (.cells #[] 3) = W3 at hb hO ⊢; have H0 := H; have HO := hid hO; have HB0 := hid hb; replace H := hid (H.out.called hb); clear hb hO; obtain ⟨-, cR, cM⟩ := n2_ H)
  | ((with_reducible refine ki_ (b := .append) (xs := #[.tmp 8, .tmp 10]) rfl ?_); at_builtin; refine Kd.R_append_rows (Kd.int .i64) (w0 := W2) W2.heap.size rfl (.tmp 8) (.tmp 10) 51 3 (.int .i64 0) 8 rfl Try.underlying51 zN_ rfl (by decide) (by omega) (.slice (some ⟨W2.heap.size, 0, none⟩) 0 0) [] D.S A3 n3 k3 (fun _ => True) (fun _ => False) rfl rfl HO.out (Kd.C_below HC.out H.out.below) (fun _ _ h => h) (fun _ h => h.elim) (fun _ _ => trivial) HB0.out HB0.out.size (by simp; omega) ?_; intro v_ W4 hR hb hgr_ hat_; clear hgr_ hat_ HO HB0; rw [List.nil_append] at hR; obtain ⟨gT, cgT, rfl, -⟩ := Kd.R_form hR (by rw [<- HN.out]; omega); simp only [<- HN.out] at hR ⊢; clear cR cM; replace H := hid ((H0.out.called hb).row (RowF (Kd.int .i64) 3 w.heap.size (.slice (some ⟨gT, 0, none⟩) n3 cgT) D.S) (Kd.R_lower hR H0.out.below.size)); clear hb hR H0; obtain ⟨-, cR, cM⟩ := n2_ H)
  | (have hR_ : Kd.R (Kd.int .i64) 3 W4 w.heap.size (fun _ => True) (.slice (some ⟨gT, 0, none⟩) n3 cgT) D.S := H.out.fact 0 rfl; obtain ⟨ce_, fe_⟩ := elem_at hR_ i i0 i1; clear hR_; apply sv 3 15 gT i.toNat [.int .i64 y9]; intro W5 hw; clear ce_ fe_; clear cR cM; replace H := hid (H.out.putE 0 rfl hw rfl rfl); clear hw; obtain ⟨-, cR, cM⟩ := n2_ H)
  | (apply sp H 1 51 17 gM 13 [.slice (some ⟨gT, 0, none⟩) n3 cgT] (mL id m u b c z s me o a l (.slice A1 n1 k1) (.slice A2 n2 k2) (.slice (some ⟨gT, 0, none⟩) n3 cgT)); clear H cR cM; intro W6 K_; obtain ⟨H, cR, cM⟩ := n2_ K_; clear K_)
  | (apply sh H 0 68 6 gR (mL id m u b c z s me o a l (.slice A1 n1 k1) (.slice A2 n2 k2) (.slice (some ⟨gT, 0, none⟩) n3 cgT)); clear H cR cM; intro W7 K_; obtain ⟨H, cR, cM⟩ := n2_ K_; clear K_)
 refine bodyPost_ret (results_cell_row rfl _ _ gR 68 (mL id m u b c z s me o a l (.slice A1 n1 k1) (.slice A2 n2 k2) (.slice (some ⟨gT, 0, none⟩) n3 cgT)).toArray (0, 0) _ rfl (H.out.at_ 0 rfl) Try.underlying68 rfl (by kernel_rfl)) rfl ?_
 exact ⟨_, rfl, (H.out.fact 0 rfl), H.out.below⟩
end Go.Proofs.Ytgckcaoncjhgbaa
