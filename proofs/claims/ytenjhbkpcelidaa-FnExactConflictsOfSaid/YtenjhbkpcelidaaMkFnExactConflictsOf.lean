/- What the law's marks do in memory. -/
import Derived.Test.YtenjhbkpcelidaaPureFnExactConflictsOf
namespace Go.Proofs.Ytenjhbkpcelidaa.Pure
open Go.RowKit Go.Proofs.Ytenjhbkpcelidaa.PFnExactConflictsOf Go.Proofs.YtenjhbkpcelidaaW.PrintWords Go.Proofs.YtenjhbkpcelidaaW.PrintLast Go.Proofs.YtenjhbkpcelidaaW.PrintMore
set_option linter.unusedVariables false
set_option linter.unusedSimpArgs false

def Rng (lo hi k : Nat) : Prop := lo ≤ k ∧ k < hi

theorem markSettingS_rng (P : Nat → Prop) (v : Value) (xs : List S71) (k0 : Int) (w0 W : World) (hB : Below w0.heap.size w0 W) (hR : Kd.R k71 71 W w0.heap.size P v xs) (ok : okSettingS xs) (h0 : 0 ≤ k0) (h1 : k0 ≤ 1000000000000000) :
    Calls Try.prog 16 #[v, .int .i64 k0] W fun e W' => e = .returned (.int .i64 (k0 + cntSettingS xs)) ∧ Kd.R k71 71 W' w0.heap.size P v (mkSettingS xs k0) ∧ Below w0.heap.size w0 W' ∧ Kept W W' P := by
  obtain ⟨k, hk⟩ := Ev.rounds (markSettingS_ev xs k0 ok h0 h1)
  refine (laws_markSettingS.calls k P v xs k0 _ _ w0 W hB hR hk).mono ?_
  rintro e W' ⟨rfl, hR', hB', hK⟩
  exact ⟨rfl, Kd.R_reok rfl hR' (fun k e => hR.1 k e), hB', hK⟩

theorem markStringS_rng (P : Nat → Prop) (v : Value) (xs : List ByteArray) (k0 : Int) (w0 W : World) (hB : Below w0.heap.size w0 W) (hR : Kd.R Kd.string 9 W w0.heap.size P v xs) (ok : okStringS xs) (h0 : 0 ≤ k0) (h1 : k0 ≤ 1000000000000000) :
    Calls Try.prog 22 #[v, .int .i64 k0] W fun e W' => e = .returned (.int .i64 (k0 + cntStringS xs)) ∧ Kd.R Kd.string 9 W' w0.heap.size P v (mkStringS xs k0) ∧ Below w0.heap.size w0 W' ∧ Kept W W' P := by
  obtain ⟨k, hk⟩ := Ev.rounds (markStringS_ev xs k0 ok h0 h1)
  refine (laws_markStringS.calls k P v xs k0 _ _ w0 W hB hR hk).mono ?_
  rintro e W' ⟨rfl, hR', hB', hK⟩
  exact ⟨rfl, Kd.R_reok rfl hR' (fun k e => hR.1 k e), hB', hK⟩

end Go.Proofs.Ytenjhbkpcelidaa.Pure
