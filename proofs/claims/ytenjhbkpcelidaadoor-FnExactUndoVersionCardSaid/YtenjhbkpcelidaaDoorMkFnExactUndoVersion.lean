/- What the law's marks do in memory. -/
import Derived.Test.YtenjhbkpcelidaaDoorPureFnExactUndoVersion
namespace Go.Proofs.YtenjhbkpcelidaaDoor.Pure
open Go.RowKit Go.Proofs.YtenjhbkpcelidaaDoor.PFnExactUndoVersion Go.Proofs.YtenjhbkpcelidaaDoorW.PrintWords Go.Proofs.YtenjhbkpcelidaaDoorW.PrintLast Go.Proofs.YtenjhbkpcelidaaDoorW.PrintMore
set_option linter.unusedVariables false
set_option linter.unusedSimpArgs false
def Rng (lo hi k : Nat) : Prop := lo ≤ k ∧ k < hi
theorem markSettingS_rng (P : Nat → Prop) (v : Value) (xs : List S59) (k0 : Int) (w0 W : World) (hB : Below w0.heap.size w0 W) (hR : Kd.R k59 59 W w0.heap.size P v xs) (ok : okSettingS xs) (h0 : 0 ≤ k0) (h1 : k0 ≤ 1000000000000000) :
  Calls Tryd.prog 24 #[v, .int .i64 k0] W fun e W' => e = .returned (.int .i64 (k0 + cntSettingS xs)) ∧ Kd.R k59 59 W' w0.heap.size P v (mkSettingS xs k0) ∧ Below w0.heap.size w0 W' ∧ Kept W W' P := by
 obtain ⟨k, hk⟩ := Ev.rounds (markSettingS_ev xs k0 ok h0 h1)
 refine (laws_markSettingS.calls k P v xs k0 _ _ w0 W hB hR hk).mono ?_
 rintro e W' ⟨rfl, hR', hB', hK⟩
 exact ⟨rfl, Kd.R_reok rfl hR' (fun k e => hR.1 k e), hB', hK⟩
set_option maxHeartbeats 8000000 in
theorem markVersionS_rng (P : Nat → Prop) (v : Value) (xs : List S42) (k0 : Int) (w0 W : World) (hB : Below w0.heap.size w0 W) (hS : Kd.S k42 42 W w0.heap.size P v xs) (ok : okVersionS xs) (h0 : 0 ≤ k0) (h1 : k0 ≤ 900000000000000) :
  Calls Tryd.prog 9 #[v, .int .i64 k0] W fun e W' => e = .returned (.int .i64 (k0 + cntVersionS xs)) ∧ Kd.S k42 42 W' w0.heap.size P v (mkVersionS xs k0) ∧ Below w0.heap.size w0 W' ∧ Kept W W' P := by
 have hbd := cntVersionS_bd xs ok
 have hol := ok.1
 have OK := Aside0.mk ok.2
 have HS := Aside0.mk hS
 have HB := Aside0.mk hB
 clear hS hB ok
 by_cases hx : xs = []
 ·
  subst hx
  obtain ⟨A, c, rfl⟩ := Kd.S_slice HS.out
  go_enter Tryd.func9, Tryd.ntmps9
  go_wp2
  refine wp_loop_rounds 1 ?_
  rw [rounds_succ]
  go_wp2
  go_ret
  exact ⟨by simp [cntVersionS], HS.out, HB.out, Kept.refl _ _⟩
 ·
  obtain ⟨g, cap, rfl, hge, hlt, cells, hblk⟩ := Kd.S_form HS.out (List.length_pos_iff.2 hx)
  have GB := Aside0.mk hge
  have HPG := Aside0.mk (show P g from (Kd.S_R HS.out).1 g rfl)
  clear hx hge hlt hblk cells
  go_enter Tryd.func9, Tryd.ntmps9
  go_wp2
  go_loopg [1, 5] xs.length (fun gg s1 s5 wr => ∃ i : Nat, i ≤ xs.length ∧ xs.length - i ≤ gg ∧ s1 = .int .i64 (k0 + cntVersionS (xs.take i)) ∧ s5 = .int .i64 i ∧ Aside0 (Kd.S k42 42 wr w0.heap.size P (.slice (some ⟨g, 0, none⟩) xs.length cap) (mkVersionS (xs.take i) k0 ++ xs.drop i)) ∧ Aside0 (Below w0.heap.size w0 wr) ∧ Aside0 (Kept W wr P))
  case atStart => exact ⟨0, Nat.zero_le _, by omega, by simp [cntVersionS], rfl, ⟨by simpa [mkVersionS] using HS.out⟩, HB, ⟨Kept.refl _ _⟩⟩
  case round =>
   obtain ⟨i, hi, hg, rfl, rfl, HSr, HBr, HKr⟩ := hrel
   by_cases hlt : i < xs.length
   ·
    have hlen : (mkVersionS (xs.take i) k0).length = i := by rw [mkVersionS_len, List.length_take]; omega
    have hrow : (mkVersionS (xs.take i) k0 ++ xs.drop i).getD i z42 = xs.getD i z42 := by
     rw [List.getD_eq_getElem?_getD, List.getElem?_append_right (by omega), hlen, Nat.sub_self, List.getD_eq_getElem?_getD]; simp
    have hok : okSettingS (xs.getD i z42).f3 := (OK.out _ (getD_mem _ hlt)).2.2.2
    have hbt := cntVersionS_bd0 (xs.take i) (fun y hy => (OK.out y (List.mem_of_mem_take hy)).2.2.2.1)
    have htl : (xs.take i).length ≤ 1048576 := by rw [List.length_take]; omega
    obtain ⟨I, hI⟩ : ∃ I : Int, (i : Int) = I := ⟨_, rfl⟩
    have hIn : I.toNat = i := by omega
    have hp0 : (0 : Int) ≤ I := by omega
    have hltz : I < (xs.length : Int) := by omega
    obtain ⟨oki, c, hcl, hM, hcc, hfr, hoki, hH⟩ := Kd.S_elem HSr.out z42 I hp0 hltz
    rw [hIn, hrow] at hM
    obtain ⟨x, hxx⟩ : ∃ x, xs.getD i z42 = x := ⟨_, rfl⟩
    rw [hxx] at hM hok
    obtain ⟨v3, rfl, hR3⟩ := k42_openM hM
    obtain ⟨A3, c3, rfl⟩ := Kd.R_slice hR3
    obtain ⟨K, hK⟩ : ∃ K : Int, k0 + cntVersionS (xs.take i) = K := ⟨_, rfl⟩
    have hKb : 0 ≤ K ∧ K ≤ 910000000000000 := by omega
    have hb3 : 0 ≤ K + 3 ∧ K + 3 ≤ 1000000000000000 := by omega
    have E3 : Aside0 (K + 1 + 1 + 1 = K + 3) := ⟨by omega⟩
    obtain ⟨kT, hT⟩ := Ev.rounds (markText_ev (K + 2) (by omega))
    have HT : Aside0 (laws_markText.f kT (K + 1 + 1) = some (mtx (K + 2))) := ⟨by rw [show K + 1 + 1 = K + 2 by omega]; exact hT⟩
    have HH := Aside0.mk hH
    have HR3 := Aside0.mk hR3
    have HOI := Aside0.mk hoki
    have HR0 := Aside0.mk hrow
    have HL := Aside0.mk hlen
    have HOK := Aside0.mk hok
    have HXX := Aside0.mk hxx
    have HIE := Aside0.mk hI
    have HIN := Aside0.mk hIn
    have HKE := Aside0.mk hK
    rw [hI, hK]
    have HH_ := HH; have caa := Kd.H_at HH.out hp0 hltz; have hxa_0 : wr.cell? ⟨g, I.toNat * 4, none⟩ = some (.int .i64 x.f0) := caa.1 0 _ rfl; have hfa_0 : wr.frozen? ⟨g, I.toNat * 4, none⟩ = false := caa.2 0; have hxa_1 : wr.cell? ⟨g, I.toNat * 4 + 1, none⟩ = some (.int .i64 x.f1) := caa.1 1 _ rfl; have hfa_1 : wr.frozen? ⟨g, I.toNat * 4 + 1, none⟩ = false := caa.2 1; have hxa_2 : wr.cell? ⟨g, I.toNat * 4 + 2, none⟩ = some (.string x.f2) := caa.1 2 _ rfl; have hfa_2 : wr.frozen? ⟨g, I.toNat * 4 + 2, none⟩ = false := caa.2 2; have hxa_3 : wr.cell? ⟨g, I.toNat * 4 + 3, none⟩ = some (.slice A3 x.f3.length c3) := caa.1 3 _ rfl; have hfa_3 : wr.frozen? ⟨g, I.toNat * 4 + 3, none⟩ = false := caa.2 3; clear caa; clear HH_
    clear hcc hfr hoki hrow hlen hcl hH hR3 hM hok hxx hT HSr hI hIn hK hbt htl
    go_wp2_with (first | ((with_reducible refine gate_store (t := 2) (p := 16) rfl ?_); refine store_event (t := 2) (p := 16) (v := ?vo_w1) (w1 := (wr.setCell ⟨g, I.toNat * 4, none⟩ (.int .i64 K))) ?hg ?ho ?hn ?hr ?_; (case ho => rfl); (case hg => rfl); (case hn => rfl); (case hr => first | (go_simp; done) | (go_simp; rfl)); intro w1 hw; have HP := Kd.H_seg HH.out hp0 hltz (seg := [.int .i64 K]) (j := 0) (show 1 ≤ 4 from by decide) (fun q hq => by obtain rfl := List.mem_singleton.1 hq; rfl); have hh_ : Kd.H k42 42 w1 w0.heap.size P (.slice (some ⟨g, 0, none⟩) xs.length cap) (mkVersionS (xs.take i) k0 ++ xs.drop i) I oki [.int .i64 K, .int .i64 x.f1, .string x.f2, .slice A3 x.f3.length c3] := (by rw [hw]; exact HP.1); have hg_ : wr.grownBy w1 (some g) := (by rw [hw]; exact HP.2); have n0_ := Aside0.mk hh_; have n1_ := Aside0.mk (Kd.R_grown HR3.out hg_ (fun k_ hk_ e_ => (HOI.out k_ hk_).2 (by injection e_))); have n2_ : Aside0 (Below w0.heap.size w0 w1) := ⟨by rw [hw]; exact below_set HBr.out GB.out⟩; have n3_ := Aside0.mk (Kept.of_grown hg_ HKr.out (fun k_ e_ => .inl (by injection e_ with e_; rw [← e_]; exact HPG.out))); clear HP hh_ hg_ hw HH HR3 HBr HKr; have HH := n0_; have HR3 := n1_; have HBr := n2_; have HKr := n3_; clear n0_ n1_ n2_ n3_; have cab := Kd.H_at HH.out hp0 hltz; have hxb_0 : w1.cell? ⟨g, I.toNat * 4, none⟩ = some (.int .i64 K) := cab.1 0 _ rfl; have hfb_0 : w1.frozen? ⟨g, I.toNat * 4, none⟩ = false := cab.2 0; have hxb_1 : w1.cell? ⟨g, I.toNat * 4 + 1, none⟩ = some (.int .i64 x.f1) := cab.1 1 _ rfl; have hfb_1 : w1.frozen? ⟨g, I.toNat * 4 + 1, none⟩ = false := cab.2 1; have hxb_2 : w1.cell? ⟨g, I.toNat * 4 + 2, none⟩ = some (.string x.f2) := cab.1 2 _ rfl; have hfb_2 : w1.frozen? ⟨g, I.toNat * 4 + 2, none⟩ = false := cab.2 2; have hxb_3 : w1.cell? ⟨g, I.toNat * 4 + 3, none⟩ = some (.slice A3 x.f3.length c3) := cab.1 3 _ rfl; have hfb_3 : w1.frozen? ⟨g, I.toNat * 4 + 3, none⟩ = false := cab.2 3; clear cab) | ((with_reducible refine gate_store (t := 2) (p := 23) rfl ?_); refine store_event (t := 2) (p := 23) (v := ?vo_w2) (w1 := (w1.setCell ⟨g, I.toNat * 4 + 1, none⟩ (.int .i64 (K + 1)))) ?hg ?ho ?hn ?hr ?_; (case ho => rfl); (case hg => rfl); (case hn => rfl); (case hr => first | (go_simp; done) | (go_simp; rfl)); intro w2 hw; have HP := Kd.H_seg HH.out hp0 hltz (seg := [.int .i64 (K + 1)]) (j := 1) (show 2 ≤ 4 from by decide) (fun q hq => by obtain rfl := List.mem_singleton.1 hq; rfl); have hh_ : Kd.H k42 42 w2 w0.heap.size P (.slice (some ⟨g, 0, none⟩) xs.length cap) (mkVersionS (xs.take i) k0 ++ xs.drop i) I oki [.int .i64 K, .int .i64 (K + 1), .string x.f2, .slice A3 x.f3.length c3] := (by rw [hw]; exact HP.1); have hg_ : w1.grownBy w2 (some g) := (by rw [hw]; exact HP.2); have n0_ := Aside0.mk hh_; have n1_ := Aside0.mk (Kd.R_grown HR3.out hg_ (fun k_ hk_ e_ => (HOI.out k_ hk_).2 (by injection e_))); have n2_ : Aside0 (Below w0.heap.size w0 w2) := ⟨by rw [hw]; exact below_set HBr.out GB.out⟩; have n3_ := Aside0.mk (Kept.of_grown hg_ HKr.out (fun k_ e_ => .inl (by injection e_ with e_; rw [← e_]; exact HPG.out))); clear HP hh_ hg_ hw HH HR3 HBr HKr; have HH := n0_; have HR3 := n1_; have HBr := n2_; have HKr := n3_; clear n0_ n1_ n2_ n3_; have cac := Kd.H_at HH.out hp0 hltz; have hxc_0 : w2.cell? ⟨g, I.toNat * 4, none⟩ = some (.int .i64 K) := cac.1 0 _ rfl; have hfc_0 : w2.frozen? ⟨g, I.toNat * 4, none⟩ = false := cac.2 0; have hxc_1 : w2.cell? ⟨g, I.toNat * 4 + 1, none⟩ = some (.int .i64 (K + 1)) := cac.1 1 _ rfl; have hfc_1 : w2.frozen? ⟨g, I.toNat * 4 + 1, none⟩ = false := cac.2 1; have hxc_2 : w2.cell? ⟨g, I.toNat * 4 + 2, none⟩ = some (.string x.f2) := cac.1 2 _ rfl; have hfc_2 : w2.frozen? ⟨g, I.toNat * 4 + 2, none⟩ = false := cac.2 2; have hxc_3 : w2.cell? ⟨g, I.toNat * 4 + 3, none⟩ = some (.slice A3 x.f3.length c3) := cac.1 3 _ rfl; have hfc_3 : w2.frozen? ⟨g, I.toNat * 4 + 3, none⟩ = false := cac.2 3; clear cac) | ((with_reducible refine gate_callee (f := 23) rfl ?_); refine goesL_ (some 29) rfl rfl Tryd.func23 (by kernel_rfl) rfl #[.int .i64 (K + 1 + 1)] rfl (by (try simp only [List.map_toArray, List.map_cons, List.map_nil]); first | done | rfl) ?_; (with_reducible refine (laws_markText.calls kT _ (mtx (K + 2)) _ HT.out).mono ?_); rintro e w3 ⟨rfl, hb⟩; refine ⟨_, rfl, ?_⟩; have n0_ := Aside0.mk (Kd.H_below HH.out hb); have n1_ := Aside0.mk (Kd.R_below HR3.out hb); have n2_ := Aside0.mk (below_step HBr.out hb); have n3_ := Aside0.mk (Kept.below HKr.out hb); clear hb HH HR3 HBr HKr; have HH := n0_; have HR3 := n1_; have HBr := n2_; have HKr := n3_; clear n0_ n1_ n2_ n3_; have cad := Kd.H_at HH.out hp0 hltz; have hxd_0 : w3.cell? ⟨g, I.toNat * 4, none⟩ = some (.int .i64 K) := cad.1 0 _ rfl; have hfd_0 : w3.frozen? ⟨g, I.toNat * 4, none⟩ = false := cad.2 0; have hxd_1 : w3.cell? ⟨g, I.toNat * 4 + 1, none⟩ = some (.int .i64 (K + 1)) := cad.1 1 _ rfl; have hfd_1 : w3.frozen? ⟨g, I.toNat * 4 + 1, none⟩ = false := cad.2 1; have hxd_2 : w3.cell? ⟨g, I.toNat * 4 + 2, none⟩ = some (.string x.f2) := cad.1 2 _ rfl; have hfd_2 : w3.frozen? ⟨g, I.toNat * 4 + 2, none⟩ = false := cad.2 2; have hxd_3 : w3.cell? ⟨g, I.toNat * 4 + 3, none⟩ = some (.slice A3 x.f3.length c3) := cad.1 3 _ rfl; have hfd_3 : w3.frozen? ⟨g, I.toNat * 4 + 3, none⟩ = false := cad.2 3; clear cad) | ((with_reducible refine gate_store (t := 9) (p := 31) rfl ?_); refine store_event (t := 9) (p := 31) (v := ?vo_w4) (w1 := (w3.setCell ⟨g, I.toNat * 4 + 2, none⟩ (.string (mtx (K + 2))))) ?hg ?ho ?hn ?hr ?_; (case ho => rfl); (case hg => rfl); (case hn => rfl); (case hr => first | (go_simp; done) | (go_simp; rfl)); intro w4 hw; have HP := Kd.H_seg HH.out hp0 hltz (seg := [.string (mtx (K + 2))]) (j := 2) (show 3 ≤ 4 from by decide) (fun q hq => by obtain rfl := List.mem_singleton.1 hq; rfl); have hh_ : Kd.H k42 42 w4 w0.heap.size P (.slice (some ⟨g, 0, none⟩) xs.length cap) (mkVersionS (xs.take i) k0 ++ xs.drop i) I oki [.int .i64 K, .int .i64 (K + 1), .string (mtx (K + 2)), .slice A3 x.f3.length c3] := (by rw [hw]; exact HP.1); have hg_ : w3.grownBy w4 (some g) := (by rw [hw]; exact HP.2); have n0_ := Aside0.mk hh_; have n1_ := Aside0.mk (Kd.R_grown HR3.out hg_ (fun k_ hk_ e_ => (HOI.out k_ hk_).2 (by injection e_))); have n2_ : Aside0 (Below w0.heap.size w0 w4) := ⟨by rw [hw]; exact below_set HBr.out GB.out⟩; have n3_ := Aside0.mk (Kept.of_grown hg_ HKr.out (fun k_ e_ => .inl (by injection e_ with e_; rw [← e_]; exact HPG.out))); clear HP hh_ hg_ hw HH HR3 HBr HKr; have HH := n0_; have HR3 := n1_; have HBr := n2_; have HKr := n3_; clear n0_ n1_ n2_ n3_; have cae := Kd.H_at HH.out hp0 hltz; have hxe_0 : w4.cell? ⟨g, I.toNat * 4, none⟩ = some (.int .i64 K) := cae.1 0 _ rfl; have hfe_0 : w4.frozen? ⟨g, I.toNat * 4, none⟩ = false := cae.2 0; have hxe_1 : w4.cell? ⟨g, I.toNat * 4 + 1, none⟩ = some (.int .i64 (K + 1)) := cae.1 1 _ rfl; have hfe_1 : w4.frozen? ⟨g, I.toNat * 4 + 1, none⟩ = false := cae.2 1; have hxe_2 : w4.cell? ⟨g, I.toNat * 4 + 2, none⟩ = some (.string (mtx (K + 2))) := cae.1 2 _ rfl; have hfe_2 : w4.frozen? ⟨g, I.toNat * 4 + 2, none⟩ = false := cae.2 2; have hxe_3 : w4.cell? ⟨g, I.toNat * 4 + 3, none⟩ = some (.slice A3 x.f3.length c3) := cae.1 3 _ rfl; have hfe_3 : w4.frozen? ⟨g, I.toNat * 4 + 3, none⟩ = false := cae.2 3; clear cae) | ((with_reducible refine gate_callee (f := 24) rfl ?_); refine goesL_ (some 40) rfl rfl Tryd.func24 (by kernel_rfl) rfl #[.slice A3 x.f3.length c3, .int .i64 (K + 1 + 1 + 1)] rfl (by (try simp only [List.map_toArray, List.map_cons, List.map_nil]); first | done | rfl) ?_; rw [E3.out]; (with_reducible refine (markSettingS_rng oki _ x.f3 (K + 3) w0 w4 HBr.out HR3.out HOK.out hb3.1 hb3.2).mono ?_); rintro e w5 ⟨rfl, hR2, hB2, hK2⟩; refine ⟨_, rfl, ?_⟩; have n0_ := Aside0.mk (Kd.H_kept HH.out hK2 (fun k_ _ hn hs => hn hs)); have n1_ := Aside0.mk hR2; have n2_ := Aside0.mk hB2; have n3_ := Aside0.mk (Kept.then_ HKr.out hK2 (fun k_ hk_ => .inl (HOI.out k_ hk_).1)); clear hR2 hB2 hK2 HH HR3 HBr HKr; have HH := n0_; have HR3 := n1_; have HBr := n2_; have HKr := n3_; clear n0_ n1_ n2_ n3_))
    go_roundg (xs.length - (i + 1))
    case measure => omega
    case rel =>
     have hget : xs.take (i + 1) = xs.take i ++ [x] := by rw [← HXX.out]; exact take_succ_getD xs _ hlt
     have hcn : cntVersionS (xs.take (i + 1)) = cntVersionS (xs.take i) + cnt1Version x := by rw [hget, cntVersionS_append]; simp [cntVersionS]
     refine ⟨i + 1, by omega, by omega, ?_, by rw [← HIE.out]; go_num, ⟨?_⟩, HBr, HKr⟩
     ·
      rw [hcn]
      congr 1
      have := HKE.out
      unfold cnt1Version
      omega
     ·
      have h := Kd.H_back HH.out (x' := mk1Version x K) (k42_mkM _ _ _ (mk1Version x K) HR3.out) (fun _ h => h)
      rw [HIN.out, List.set_append_right _ _ (by rw [HL.out]; exact Nat.le_refl _), HL.out, Nat.sub_self, List.drop_eq_getElem_cons hlt, List.set_cons_zero] at h
      rw [hget, mkVersionS_append, List.append_assoc, HKE.out]
      simpa [mkVersionS] using h
   ·
    have hltz : ¬ (i : Int) < (xs.length : Int) := by omega
    have : i = xs.length := by omega
    subst this
    have HS2 := Aside0.mk (show Kd.S k42 42 wr w0.heap.size P (.slice (some ⟨g, 0, none⟩) xs.length cap) (mkVersionS xs k0) from by simpa using HSr.out)
    clear HSr
    go_wp2
    go_ret
    exact ⟨by first | rfl | (rw [List.take_length]; rfl), HS2.out, HBr.out, HKr.out⟩
end Go.Proofs.YtenjhbkpcelidaaDoor.Pure
