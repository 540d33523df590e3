/- What the law's marks do in memory. -/
import Derived.Test.YtobhjkpegcfdfaaPureFnExactApplyChanges
namespace Go.Proofs.Ytobhjkpegcfdfaa.Pure
open Go.RowKit Go.Proofs.Ytobhjkpegcfdfaa.PFnExactApplyChanges Go.Proofs.YtobhjkpegcfdfaaW.PrintWords Go.Proofs.YtobhjkpegcfdfaaW.PrintLast Go.Proofs.YtobhjkpegcfdfaaW.PrintMore
set_option linter.unusedVariables false
set_option linter.unusedSimpArgs false

def Rng (lo hi k : Nat) : Prop := lo ≤ k ∧ k < hi
theorem V_ofR {α : Type} {d : Kd α} {e base b2 : Nat} {ok : Nat → Prop} {W : World} {A : Option Addr} {c : Nat} {xs : List α} (h : Kd.R d e W base ok (.slice A xs.length c) xs) : Kd.V d e W b2 (fun _ => True) (.slice A xs.length c) xs :=
  show ∃ A' c', Value.slice A xs.length c = .slice A' xs.length c' ∧ xs.length ≤ c' ∧ Kd.F d W (fun _ => True) A' xs.length xs from
  ⟨A, c, rfl, (Kd.R_reads' h).2.1, fun W' hW' => (Kd.R_reads' (Kd.R_step h (fun k _ hk => hW' k trivial hk))).2.2⟩
theorem V_ofS {α : Type} {d : Kd α} {e base b2 : Nat} {ok : Nat → Prop} {W : World} {A : Option Addr} {c : Nat} {xs : List α} (h : Kd.S d e W base ok (.slice A xs.length c) xs) : Kd.V d e W b2 (fun _ => True) (.slice A xs.length c) xs :=
  show ∃ A' c', Value.slice A xs.length c = .slice A' xs.length c' ∧ xs.length ≤ c' ∧ Kd.F d W (fun _ => True) A' xs.length xs from
  ⟨A, c, rfl, (Kd.S_reads' h).2.1, fun W' hW' => (Kd.S_reads' (Kd.S_step h (fun k _ hk => hW' k trivial hk))).2.2⟩

theorem markSettingS_rng (P : Nat → Prop) (v : Value) (xs : List S150) (k0 : Int) (w0 W : World) (hB : Below w0.heap.size w0 W) (hR : Kd.R k150 150 W w0.heap.size P v xs) (ok : okSettingS xs) (h0 : 0 ≤ k0) (h1 : k0 ≤ 1000000000000000) :
    Calls Try.prog 40 #[v, .int .i64 k0] W fun e W' => e = .returned (.int .i64 (k0 + cntSettingS xs)) ∧ Kd.R k150 150 W' w0.heap.size P v (mkSettingS xs k0) ∧ Below w0.heap.size w0 W' ∧ Kept W W' P := by
  obtain ⟨k, hk⟩ := Ev.rounds (markSettingS_ev xs k0 ok h0 h1)
  refine (laws_markSettingS.calls k P v xs k0 _ _ w0 W hB hR hk).mono ?_
  rintro e W' ⟨rfl, hR', hB', hK⟩
  exact ⟨rfl, Kd.R_reok rfl hR' (fun k e => hR.1 k e), hB', hK⟩

theorem markChangeS_rng (P : Nat → Prop) (v : Value) (xs : List S152) (k0 : Int) (w0 W : World) (hB : Below w0.heap.size w0 W) (hR : Kd.R k152 152 W w0.heap.size P v xs) (ok : okChangeS xs) (h0 : 0 ≤ k0) (h1 : k0 ≤ 1000000000000000) :
    Calls Try.prog 41 #[v, .int .i64 k0] W fun e W' => e = .returned (.int .i64 (k0 + cntChangeS xs)) ∧ Kd.R k152 152 W' w0.heap.size P v (mkChangeS xs k0) ∧ Below w0.heap.size w0 W' ∧ Kept W W' P := by
  obtain ⟨k, hk⟩ := Ev.rounds (markChangeS_ev xs k0 ok h0 h1)
  refine (laws_markChangeS.calls k P v xs k0 _ _ w0 W hB hR hk).mono ?_
  rintro e W' ⟨rfl, hR', hB', hK⟩
  exact ⟨rfl, Kd.R_reok rfl hR' (fun k e => hR.1 k e), hB', hK⟩

end Go.Proofs.Ytobhjkpegcfdfaa.Pure
