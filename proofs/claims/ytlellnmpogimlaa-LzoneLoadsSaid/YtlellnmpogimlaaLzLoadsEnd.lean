/- revetmentlaw17.LzoneLoads answers true: for all settings and zones. No condition. -/
import Derived.Test.YtlellnmpogimlaaLzLoads
import Derived.Test.YtlellnmpogimlaaPLx10
import Derived.Test.YtlellnmpogimlaaPLx12
import Derived.Test.YtlellnmpogimlaaPLx14
import Derived.Test.YtlellnmpogimlaaPLx2
namespace Go.Proofs.Ytlellnmpogimlaa
-- lzone_Load.calls revetmentref17_Load.calls revetmentref07_Check.calls
open Go.RowKit Go.Proofs.Ytlellnmpogimlaa.PL Go.Proofs.YtlellnmpogimlaaW.PrintWords Go.Proofs.YtlellnmpogimlaaW.PrintLast
set_option linter.unusedVariables false
set_option linter.unusedSimpArgs false
section
variable (id m u b c z s me o a l : Int)
theorem load_f (L : List S57) (h : checkC id m u b c z s me o a l = 0) (hl : L.length ≤ 80) : lzone_Load.f 100 id m u b c z s me o a l L = some (Geo.loadZ id m u b c z s me o a l (L.map Geo.restZ)) := by
  unfold lzone_Load.f conf_Check.f api_LZone_24.f
  rw [Option.bind_some, if_pos h, if_pos (by omega), Option.bind_some]
  have := Geo.load_loop id m u b c z s me o a l L.length (by omega) L.length 0 100 L rfl (by omega) (by omega)
  rw [List.take_zero, List.nil_append, List.drop_zero] at this
  exact this
theorem load_no (L : List S57) (h : ¬ checkC id m u b c z s me o a l = 0) : lzone_Load.f 100 id m u b c z s me o a l L = some (0, 0, 0, 0, 0, 0, 0, 0, 0, 0, 0, [], checkC id m u b c z s me o a l) := by
  unfold lzone_Load.f conf_Check.f
  rw [Option.bind_some, if_neg h]
theorem rload_f (L : List S57) (hl : L.length ≤ 80) : revetmentref17_Load.f 400 id m u b c z s me o a l L = some (Geo.loadZ id m u b c z s me o a l (L.map Geo.restZ)) := by
  unfold revetmentref17_Load.f
  have := Geo.rload_loop id m u b c z s me o a l L (by omega) L.length 0 400 [] rfl (by omega) (by omega)
  rw [List.drop_zero, List.nil_append] at this
  exact this
end
namespace PL
/-- The law as a function: true. -/
def revetmentlaw17_LzoneLoads.f (id m u b c z s me o a l : Int) (L : List S57) : Option Bool := some true
theorem revetmentlaw17_LzoneLoads.calls (id m u b c z s me o a l : Int) (A1 : Option Addr) (c1 : Nat) (L : List S57) (w : World) (hr1 : Kd.C k57 w A1 L.length L) (hc1 : L.length ≤ c1) (h : revetmentlaw17_LzoneLoads.f id m u b c z s me o a l L = some true) :
    Calls Try.prog 3 #[.agg #[.int .i64 id, .int .i64 m, .int .i64 u, .int .i64 b, .int .i64 c, .int .i64 z, .int .i64 s, .int .i64 me, .int .i64 o, .int .i64 a, .int .i64 l], .slice A1 L.length c1] w fun e w' => e = .returned (.bool true) ∧ Below w.heap.size w w' := by
  by_cases h80 : 80 < (L.length : Int)
  · exact loads_many id m u b c z s me o a l A1 c1 L w hr1 hc1 h80
  have hK := fun (r : Int) (W : World) (e : checkC id m u b c z s me o a l = r) => revetmentref07_Check.calls id m u b c z s me o a l r W (by unfold revetmentref07_Check.f; rw [e])
  by_cases hk : checkC id m u b c z s me o a l = 0
  · have e1 := load_f id m u b c z s me o a l L hk (by omega)
    have e2 := rload_f id m u b c z s me o a l L (by omega)
    unfold Geo.loadZ at e1 e2
    by_cases hr : rightZ id m u b c z s me o a l (L.map Geo.restZ) = true
    · rw [if_pos hr] at e1 e2
      exact loads_yes id m u b c z s me o a l A1 c1 L id m u b c z s me o a l 0 (L.map Geo.restZ) w hr1 hc1 h80 (by rw [List.length_map]; omega) (Geo.cnt_rest L)
        (fun W h => lzone_Load.calls 100 id m u b c z s me o a l A1 c1 L id m u b c z s me o a l (L.map Geo.restZ) 0 W h hc1 e1) (fun W h => revetmentref17_Load.calls 400 id m u b c z s me o a l A1 c1 L id m u b c z s me o a l (L.map Geo.restZ) 0 W h hc1 e2) (fun W => hK 0 W hk)
    · rw [if_neg hr] at e1 e2
      exact loads_yes id m u b c z s me o a l A1 c1 L 0 0 0 0 0 0 0 0 0 0 0 1 [] w hr1 hc1 h80 (by decide) rfl
        (fun W h => lzone_Load.calls 100 id m u b c z s me o a l A1 c1 L 0 0 0 0 0 0 0 0 0 0 0 [] 1 W h hc1 e1) (fun W h => revetmentref17_Load.calls 400 id m u b c z s me o a l A1 c1 L 0 0 0 0 0 0 0 0 0 0 0 [] 1 W h hc1 e2) (fun W => hK 0 W hk)
  · have e1 := load_no id m u b c z s me o a l L hk
    exact loads_no id m u b c z s me o a l A1 c1 L (checkC id m u b c z s me o a l) w hr1 hc1 h80 hk (fun W h => lzone_Load.calls 100 id m u b c z s me o a l A1 c1 L 0 0 0 0 0 0 0 0 0 0 0 [] _ W h hc1 e1) (fun W => hK _ W rfl)
end PL
theorem Geo.lzoneLoads_true (id m u b c z s me o a l : Int) (L : List S57) : revetmentlaw17_LzoneLoads.f id m u b c z s me o a l L = some true := rfl
end Go.Proofs.Ytlellnmpogimlaa
