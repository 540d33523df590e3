/- What the law's marks do in memory. -/
import Derived.Test.YtobhjkpegcfdfaaPureFnExactHotSpots
namespace Go.Proofs.Ytobhjkpegcfdfaa.Pure
open Go.RowKit Go.Proofs.Ytobhjkpegcfdfaa.PFnExactHotSpots Go.Proofs.YtobhjkpegcfdfaaW.PrintWords Go.Proofs.YtobhjkpegcfdfaaW.PrintLast Go.Proofs.YtobhjkpegcfdfaaW.PrintMore
set_option linter.unusedVariables false
set_option linter.unusedSimpArgs false
def Rng (lo hi k : Nat) : Prop := lo ≤ k ∧ k < hi
theorem markInt64S_rng (P : Nat → Prop) (v : Value) (xs : List Int) (k0 : Int) (w0 W : World) (hB : Below w0.heap.size w0 W) (hR : Kd.R (Kd.int .i64) 2 W w0.heap.size P v xs) (ok : okInt64S xs) (h0 : 0 ≤ k0) (h1 : k0 ≤ 1000000000000000) :
  Calls Try.prog 69 #[v, .int .i64 k0] W fun e W' => e = .returned (.int .i64 (k0 + cntInt64S xs)) ∧ Kd.R (Kd.int .i64) 2 W' w0.heap.size P v (mkInt64S xs k0) ∧ Below w0.heap.size w0 W' ∧ Kept W W' P := by
 obtain ⟨k, hk⟩ := Ev.rounds (markInt64S_ev xs k0 ok h0 h1)
 refine (laws_markInt64S.calls k P v xs k0 _ _ w0 W hB hR hk).mono ?_
 rintro e W' ⟨rfl, hR', hB', hK⟩
 exact ⟨rfl, Kd.R_reok rfl hR' (fun k e => hR.1 k e), hB', hK⟩
set_option maxHeartbeats 2000000 in
theorem markInt64SS_rng (P : Nat → Prop) (v : Value) (xs : List (List Int)) (k0 : Int) (w0 W : World) (hB : Below w0.heap.size w0 W) (hS : Kd.S (Kd.slice 2 (Kd.int .i64)) 32 W w0.heap.size P v xs) (ok : okInt64SS xs) (h0 : 0 ≤ k0) (h1 : k0 ≤ 900000000000000) :
  Calls Try.prog 20 #[v, .int .i64 k0] W fun e W' => e = .returned (.int .i64 (k0 + cntInt64SS xs)) ∧ Kd.S (Kd.slice 2 (Kd.int .i64)) 32 W' w0.heap.size P v (mkInt64SS xs k0) ∧ Below w0.heap.size w0 W' ∧ Kept W W' P := by
 have hbd := cntInt64SS_bd xs ok
 have hol := ok.1
 have OK := Aside0.mk ok.2
 have HS := Aside0.mk hS
 have HB := Aside0.mk hB
 clear hS hB ok
 by_cases hx : xs = []
 ·
  subst hx
  obtain ⟨A, c, rfl⟩ := Kd.S_slice HS.out
  go_enter Try.func20, Try.ntmps20
  go_wp2
  refine wp_loop_rounds 1 ?_
  rw [rounds_succ]
  go_wp2
  go_ret
  exact ⟨by simp [cntInt64SS], HS.out, HB.out, Kept.refl _ _⟩
 ·
  obtain ⟨g, cap, rfl, hge, hlt, cells, hblk⟩ := Kd.S_form HS.out (List.length_pos_iff.2 hx)
  clear hx hge hlt hblk cells
  go_enter Try.func20, Try.ntmps20
  go_wp2
  go_loopg [1, 5] xs.length (fun gg s1 s5 wr => ∃ i : Nat, i ≤ xs.length ∧ xs.length - i ≤ gg ∧ s1 = .int .i64 (k0 + cntInt64SS (xs.take i)) ∧ s5 = .int .i64 i ∧ Aside0 (Kd.S (Kd.slice 2 (Kd.int .i64)) 32 wr w0.heap.size P (.slice (some ⟨g, 0, none⟩) xs.length cap) (mkInt64SS (xs.take i) k0 ++ xs.drop i)) ∧ Aside0 (Below w0.heap.size w0 wr) ∧ Aside0 (Kept W wr P))
  case atStart => exact ⟨0, Nat.zero_le _, by omega, by simp [cntInt64SS], rfl, ⟨by simpa [mkInt64SS] using HS.out⟩, HB, ⟨Kept.refl _ _⟩⟩
  case round =>
   obtain ⟨i, hi, hg, rfl, rfl, HSr, HBr, HKr⟩ := hrel
   by_cases hlt : i < xs.length
   ·
    have hltz : (i : Int) < (xs.length : Int) := by omega
    have hlen : (mkInt64SS (xs.take i) k0).length = i := by rw [mkInt64SS_len, List.length_take]; omega
    have hrow : (mkInt64SS (xs.take i) k0 ++ xs.drop i).getD i [] = xs.getD i [] := by
     rw [List.getD_eq_getElem?_getD, List.getElem?_append_right (by omega), hlen, Nat.sub_self, List.getD_eq_getElem?_getD]; simp
    have hok : okInt64S (xs.getD i []) := OK.out _ (getD_mem [] hlt)
    have hbt := cntInt64SS_bd0 (xs.take i) (fun y hy => OK.out y (List.mem_of_mem_take hy))
    have htl : (xs.take i).length ≤ 1048576 := by rw [List.length_take]; omega
    obtain ⟨oki, c, hcl, hM, hcc, _, hoki, hH⟩ := Kd.S_elem HSr.out [] (i : Int) (by omega) (by omega)
    rw [Int.toNat_natCast, hrow] at hM
    obtain ⟨ve, rfl, hRi⟩ := hM
    obtain ⟨A1, c1, rfl⟩ := Kd.R_slice hRi
    have hx0 := hcc 0 _ rfl
    rw [Int.toNat_natCast, show (i * (Kd.slice 2 (Kd.int .i64)).sz + 0) = i from by show i * 1 + 0 = i; omega] at hx0
    obtain ⟨row, hrw⟩ : ∃ row, xs.getD i [] = row := ⟨_, rfl⟩
    rw [hrw] at hRi hx0 hok hH
    have HRW := Aside0.mk hrw
    clear hrw
    have HH := Aside0.mk hH
    have HRi := Aside0.mk hRi
    have HOI := Aside0.mk hoki
    have HR0 := Aside0.mk hrow
    have HL := Aside0.mk hlen
    have hb0 : 0 ≤ k0 + cntInt64SS (xs.take i) ∧ k0 + cntInt64SS (xs.take i) ≤ 1000000000000000 := by omega
    clear hcc hoki hrow hlen hcl hH hRi
    have hcall := fun h => markInt64S_rng oki _ _ (k0 + cntInt64SS (xs.take i)) w0 wr HBr.out HRi.out hok hb0.1 h
    go_wp2_with (fail)
    ((with_reducible refine (hcall hb0.2).mono ?_))
    rintro e w2 ⟨rfl, hR2, hB2, hK2⟩
    have HR2 := Aside0.mk hR2
    have HB2 := Aside0.mk hB2
    have HK2 := Aside0.mk hK2
    clear hR2 hB2 hK2 hcall
    go_wp2
    go_roundg (xs.length - (i + 1))
    case measure => omega
    case rel =>
     have hget : xs.take (i + 1) = xs.take i ++ [row] := by rw [← HRW.out]; exact take_succ_getD xs [] hlt
     have hcn : cntInt64SS (xs.take (i + 1)) = cntInt64SS (xs.take i) + cntInt64S row := by rw [hget, cntInt64SS_append]; simp [cntInt64SS, cntInt64S]
     refine ⟨i + 1, by omega, by omega, ?_, by go_num, ⟨?_⟩, HB2, ⟨Kept.then_ HKr.out HK2.out (fun k hk => .inl (HOI.out k hk).1)⟩⟩
     ·
      rw [hcn]
      congr 1
      unfold cntInt64S
      omega
     ·
      have h := Kd.H_back (Kd.H_kept HH.out HK2.out (fun k _ hn hs => hn hs)) (x' := mkInt64S row (k0 + cntInt64SS (xs.take i))) ⟨_, rfl, HR2.out⟩ (fun _ h => h)
      rw [Int.toNat_natCast, List.set_append_right _ _ (by rw [HL.out]; exact Nat.le_refl _), HL.out, Nat.sub_self, List.drop_eq_getElem_cons hlt, List.set_cons_zero] at h
      rw [hget, mkInt64SS_append, List.append_assoc]
      simpa [mkInt64SS] using h
   ·
    have hltz : ¬ (i : Int) < (xs.length : Int) := by omega
    have : i = xs.length := by omega
    subst this
    have HS2 := Aside0.mk (show Kd.S (Kd.slice 2 (Kd.int .i64)) 32 wr w0.heap.size P (.slice (some ⟨g, 0, none⟩) xs.length cap) (mkInt64SS xs k0) from by simpa using HSr.out)
    clear HSr
    go_wp2
    go_ret
    exact ⟨by first | rfl | (rw [List.take_length]; rfl), HS2.out, HBr.out, HKr.out⟩
theorem markSpotS_rng (P : Nat → Prop) (v : Value) (xs : List S116) (k0 : Int) (w0 W : World) (hB : Below w0.heap.size w0 W) (hR : Kd.R k116 116 W w0.heap.size P v xs) (ok : okSpotS xs) (h0 : 0 ≤ k0) (h1 : k0 ≤ 1000000000000000) :
  Calls Try.prog 21 #[v, .int .i64 k0] W fun e W' => e = .returned (.int .i64 (k0 + cntSpotS xs)) ∧ Kd.R k116 116 W' w0.heap.size P v (mkSpotS xs k0) ∧ Below w0.heap.size w0 W' ∧ Kept W W' P := by
 obtain ⟨k, hk⟩ := Ev.rounds (markSpotS_ev xs k0 ok h0 h1)
 refine (laws_markSpotS.calls k P v xs k0 _ _ w0 W hB hR hk).mono ?_
 rintro e W' ⟨rfl, hR', hB', hK⟩
 exact ⟨rfl, Kd.R_reok rfl hR' (fun k e => hR.1 k e), hB', hK⟩
end Go.Proofs.Ytobhjkpegcfdfaa.Pure
