/- What the law's marks do in memory. -/
import Derived.Test.YtffmkjnjopflnaaPureFnExactBestOrder
namespace Go.Proofs.Ytffmkjnjopflnaa.Pure
open Go.RowKit Go.Proofs.Ytffmkjnjopflnaa.PFnExactBestOrder Go.Proofs.YtffmkjnjopflnaaW.PrintWords Go.Proofs.YtffmkjnjopflnaaW.PrintLast Go.Proofs.YtffmkjnjopflnaaW.PrintMore
set_option linter.unusedVariables false
set_option linter.unusedSimpArgs false
def Rng (lo hi k : Nat) : Prop := lo ≤ k ∧ k < hi
theorem markRepairS_rng (P : Nat → Prop) (v : Value) (xs : List S43) (k0 : Int) (w0 W : World) (hB : Below w0.heap.size w0 W) (hR : Kd.R k43 43 W w0.heap.size P v xs) (ok : okRepairS xs) (h0 : 0 ≤ k0) (h1 : k0 ≤ 1000000000000000) :
  Calls Try.prog 35 #[v, .int .i64 k0] W fun e W' => e = .returned (.int .i64 (k0 + cntRepairS xs)) ∧ Kd.R k43 43 W' w0.heap.size P v (mkRepairS xs k0) ∧ Below w0.heap.size w0 W' ∧ Kept W W' P := by
 obtain ⟨k, hk⟩ := Ev.rounds (markRepairS_ev xs k0 ok h0 h1)
 refine (laws_markRepairS.calls k P v xs k0 _ _ w0 W hB hR hk).mono ?_
 rintro e W' ⟨rfl, hR', hB', hK⟩
 exact ⟨rfl, Kd.R_reok rfl hR' (fun k e => hR.1 k e), hB', hK⟩
theorem markInt64S_rng (P : Nat → Prop) (v : Value) (xs : List Int) (k0 : Int) (w0 W : World) (hB : Below w0.heap.size w0 W) (hR : Kd.R (Kd.int .i64) 2 W w0.heap.size P v xs) (ok : okInt64S xs) (h0 : 0 ≤ k0) (h1 : k0 ≤ 1000000000000000) :
  Calls Try.prog 36 #[v, .int .i64 k0] W fun e W' => e = .returned (.int .i64 (k0 + cntInt64S xs)) ∧ Kd.R (Kd.int .i64) 2 W' w0.heap.size P v (mkInt64S xs k0) ∧ Below w0.heap.size w0 W' ∧ Kept W W' P := by
 obtain ⟨k, hk⟩ := Ev.rounds (markInt64S_ev xs k0 ok h0 h1)
 refine (laws_markInt64S.calls k P v xs k0 _ _ w0 W hB hR hk).mono ?_
 rintro e W' ⟨rfl, hR', hB', hK⟩
 exact ⟨rfl, Kd.R_reok rfl hR' (fun k e => hR.1 k e), hB', hK⟩
end Go.Proofs.Ytffmkjnjopflnaa.Pure
