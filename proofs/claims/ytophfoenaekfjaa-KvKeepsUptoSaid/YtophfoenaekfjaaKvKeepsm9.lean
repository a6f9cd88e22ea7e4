/- The law KvKeeps. -/
import Derived.Test.YtophfoenaekfjaaKvKeepsm7
import Derived.Test.YtophfoenaekfjaaKvKeepsm6
import Derived.Test.YtophfoenaekfjaaKvKeepsm8
import Derived.Outline
import Derived.Deep.RegionLaw
import Derived.Deep.CutRange
import Derived.Deep.DeepCutAuto
namespace Go.Proofs.Ytophfoenaekfjaa
open Go.RowKit Go.Proofs.YtophfoenaekfjaaW.PrintWords Go.Proofs.YtophfoenaekfjaaW.PrintLast Go.Proofs.YtophfoenaekfjaaW.PrintMore Go.Proofs.Ytophfoenaekfjaa.PSnapEncodes
set_option linter.unusedVariables false
set_option linter.unusedSimpArgs false
set_option maxHeartbeats 4000000 in
set_option maxRecDepth 100000 in
theorem law_KvKeeps (A0 : Option Addr) (c0 : Nat) (l : List S72) (k : Int) (A1 A2 A3 : Option Addr) (c1 c2 c3 : Nat) (n a b : List Int) (num : Int) (E : Option Addr) (ce : Nat) (o : List Int) (w : World) (hr0 : Kd.C k72 w A0 l.length l) (hc0 : l.length ≤ c0) (hsm : smallE l) (ak : -9223372036854775808 ≤ k ∧ k ≤ 9223372036854775807) (ah1 : CB w A1 n) (am1 : n.length ≤ c1) (as1 : n.length ≤ 1048576) (ah2 : CB w A2 a) (am2 : a.length ≤ c2) (as2 : a.length ≤ 1048576) (ah3 : CB w A3 b) (am3 : b.length ≤ c3) (as3 : b.length ≤ 1048576) (ho0 : CB w E o) (hoc : o.length ≤ ce) (hos : o.length ≤ 1048576) :
    Calls Try.prog 8 #[.slice A0 l.length c0, .agg #[.int .i64 k, .slice A1 n.length c1, .slice A2 a.length c2, .slice A3 b.length c3, .int .i64 num], .slice E o.length ce] w fun e w' => e = .returned (.bool true) ∧ Below w.heap.size w w' := by
  have HR0 := Aside0.mk hr0
  have HSM := Aside0.mk hsm
  have HSM2 := Aside0.mk (show l.length ≤ 1048576 ∧ ∀ x ∈ l, x.f0.length ≤ 1048576 ∧ x.f1.length ≤ 1048576 from hsm)
  have HEO := Aside0.mk ho0
  have Hah1 := Aside0.mk ah1
  have Hah2 := Aside0.mk ah2
  have Hah3 := Aside0.mk ah3
  clear hr0 hsm ah1 ah2 ah3 ho0
  obtain ⟨g1, hg1⟩ : ∃ g, g = w.heap.size := ⟨_, rfl⟩
  obtain ⟨W0, hW0⟩ : ∃ W, W = w.alloc (.cells #[.int .i64 k, .slice A1 n.length c1, .slice A2 a.length c2, .slice A3 b.length c3, .int .i64 num] 63) := ⟨_, rfl⟩
  have HB := Aside0.mk (show Below w.heap.size w W0 from by rw [hW0]; exact below_alloc (Below.refl _ _) _)
  have HK1 := Aside0.mk (show W0.heap[g1]? = some (.cells #[.int .i64 k, .slice A1 n.length c1, .slice A2 a.length c2, .slice A3 b.length c3, .int .i64 num] 63 (0, 0)) from by rw [hW0, hg1]; exact blk_new _ _)
  go_enter Try.func8, Try.ntmps8
  go_wp2_with fail
  try rw [← hg1]
  rw [← hW0]
  clear hg1 hW0
  refine (kvAlive W0).mono ?_
  rintro e w1 ⟨rfl, hb⟩
  replace HB := Aside0.mk (below_step HB.out hb)
  replace HK1 := Aside0.mk (blk_below HK1.out hb)
  clear hb
  go_wp2_with fail
  refine (kv_Right A0 c0 l w1 (Kd.C_below HR0.out HB.out) hc0).mono ?_
  rintro e w2 ⟨r, rfl, hb, hi⟩
  have HI := Aside0.mk hi
  clear hi
  replace HB := Aside0.mk (below_step HB.out hb)
  replace HK1 := Aside0.mk (blk_below HK1.out hb)
  clear hb
  cases r with
  | false =>
    go_wp2_with fail
    go_ret
    exact ⟨rfl, HB.out⟩
  | true =>
    have HG := Aside0.mk (HI.out.1 rfl)
    clear HI
    obtain ⟨r1, h1⟩ : ∃ r, kvDo l k n a b num = r := ⟨_, rfl⟩
    obtain ⟨r2, h2⟩ : ∃ r, kvDo r1.1 1 n [] [] 0 = r := ⟨_, rfl⟩
    have hg1 := good_kv HG.out k n a b num
    rw [h1] at hg1
    have haf := kv_after HG.out (k := k) (n := n) (a := a) (b := b) (num := num)
    rw [h1, h2] at haf
    have HAF := Aside0.mk haf
    have HGE := Aside0.mk (show sameB n o = false → getE r1.1 o = getE l o from fun h => by rw [← h1]; exact kv_get_ne HG.out h)
    have HG1 := Aside0.mk hg1
    have HE1 := Aside0.mk h1
    have HE2 := Aside0.mk h2
    clear h1 h2 hg1 haf
    go_upto_region 5 with fail
    go_cut [7, 8] (fun u7 u8 wx => Aside0 (DoneK w2 r1 u7 u8 wx))
    case first =>
      have HX := Aside0.mk (Below.refl w2.heap.size w2)
      have hz0 : w2.cell? ⟨g1, 0, none⟩ = some (.int .i64 k) := (blk_cell HK1.out 0).trans rfl
      have hz1 : w2.cell? ⟨g1, 1, none⟩ = some (.slice A1 n.length c1) := (blk_cell HK1.out 1).trans rfl
      have hz2 : w2.cell? ⟨g1, 2, none⟩ = some (.slice A2 a.length c2) := (blk_cell HK1.out 2).trans rfl
      have hz3 : w2.cell? ⟨g1, 3, none⟩ = some (.slice A3 b.length c3) := (blk_cell HK1.out 3).trans rfl
      have hz4 : w2.cell? ⟨g1, 4, none⟩ = some (.int .i64 num) := (blk_cell HK1.out 4).trans rfl
      have hr00 : (w2.alloc (.cells #[.int .i64 0, .slice none 0 0] 45)).cell? ⟨g1, 0, none⟩ = some (.int .i64 k) := (blk_cell (blk_below HK1.out (below_alloc HX.out _)) 0).trans rfl
      have hr01 : (w2.alloc (.cells #[.int .i64 0, .slice none 0 0] 45)).cell? ⟨g1, 1, none⟩ = some (.slice A1 n.length c1) := (blk_cell (blk_below HK1.out (below_alloc HX.out _)) 1).trans rfl
      have hr02 : (w2.alloc (.cells #[.int .i64 0, .slice none 0 0] 45)).cell? ⟨g1, 2, none⟩ = some (.slice A2 a.length c2) := (blk_cell (blk_below HK1.out (below_alloc HX.out _)) 2).trans rfl
      have hr03 : (w2.alloc (.cells #[.int .i64 0, .slice none 0 0] 45)).cell? ⟨g1, 3, none⟩ = some (.slice A3 b.length c3) := (blk_cell (blk_below HK1.out (below_alloc HX.out _)) 3).trans rfl
      have hr04 : (w2.alloc (.cells #[.int .i64 0, .slice none 0 0] 45)).cell? ⟨g1, 4, none⟩ = some (.int .i64 num) := (blk_cell (blk_below HK1.out (below_alloc HX.out _)) 4).trans rfl
      go_wp2_with fail
      go_region_law (first | (go_simp; go_at_call 37; ((with_reducible refine (ref07_Copy A0 c0 l _ (Kd.C_below HR0.out (below_step HB.out (by repeat (first | exact HX.out | apply below_alloc | apply below_drew | apply pw_below_drewN)))) hc0 HSM.out).mono ?_)); intro e wa hp; obtain ⟨va, he, ho, hb⟩ := hp.out; subst he; obtain ⟨Xa, xa, hv, ha1, ha2⟩ := Kd.S_reads ho; subst hv; replace HX := Aside0.mk (below_step (by repeat (first | exact HX.out | apply below_alloc | apply below_drew | apply pw_below_drewN)) hb); (try replace HCa := Aside0.mk (Kd.C_below HCa.out (below_step (by repeat (first | exact Below.refl _ _ | apply below_alloc | apply below_drew | apply pw_below_drewN)) hb))); (try replace HY1 := Aside0.mk (Kd.C_below HY1.out (below_step (by repeat (first | exact Below.refl _ _ | apply below_alloc | apply below_drew | apply pw_below_drewN)) hb))); (try replace HY2 := Aside0.mk (Kd.C_below HY2.out (below_step (by repeat (first | exact Below.refl _ _ | apply below_alloc | apply below_drew | apply pw_below_drewN)) hb))); (try replace HY3 := Aside0.mk (Kd.C_below HY3.out (below_step (by repeat (first | exact Below.refl _ _ | apply below_alloc | apply below_drew | apply pw_below_drewN)) hb))); (first | replace HZ := Aside0.mk (blk_below HZ.out (below_step (by repeat (first | exact Below.refl _ _ | apply below_alloc | apply below_drew | apply pw_below_drewN)) hb)) | have HZ := Aside0.mk (blk_up (by repeat (first | exact Below.refl _ _ | apply below_drew | apply pw_below_drewN)) hb) | skip); (try have hs0 := z45_0 HZ.out); (try have hs1 := z45_1 HZ.out); (try have hsf0 := blk_frozen HZ.out 0); (try have hsf1 := blk_frozen HZ.out 1); have hxs_wa := HX.out.size; have hq00 : wa.cell? ⟨g1, 0, none⟩ = some (.int .i64 k) := (blk_cell (blk_below HK1.out HX.out) 0).trans rfl; have hq01 : wa.cell? ⟨g1, 1, none⟩ = some (.slice A1 n.length c1) := (blk_cell (blk_below HK1.out HX.out) 1).trans rfl; have hq02 : wa.cell? ⟨g1, 2, none⟩ = some (.slice A2 a.length c2) := (blk_cell (blk_below HK1.out HX.out) 2).trans rfl; have hq03 : wa.cell? ⟨g1, 3, none⟩ = some (.slice A3 b.length c3) := (blk_cell (blk_below HK1.out HX.out) 3).trans rfl; have hq04 : wa.cell? ⟨g1, 4, none⟩ = some (.int .i64 num) := (blk_cell (blk_below HK1.out HX.out) 4).trans rfl; have hr00 : (wa.alloc (.cells #[.int .i64 0, .slice none 0 0] 45)).cell? ⟨g1, 0, none⟩ = some (.int .i64 k) := (blk_cell (blk_below HK1.out (below_alloc HX.out _)) 0).trans rfl; have hr01 : (wa.alloc (.cells #[.int .i64 0, .slice none 0 0] 45)).cell? ⟨g1, 1, none⟩ = some (.slice A1 n.length c1) := (blk_cell (blk_below HK1.out (below_alloc HX.out _)) 1).trans rfl; have hr02 : (wa.alloc (.cells #[.int .i64 0, .slice none 0 0] 45)).cell? ⟨g1, 2, none⟩ = some (.slice A2 a.length c2) := (blk_cell (blk_below HK1.out (below_alloc HX.out _)) 2).trans rfl; have hr03 : (wa.alloc (.cells #[.int .i64 0, .slice none 0 0] 45)).cell? ⟨g1, 3, none⟩ = some (.slice A3 b.length c3) := (blk_cell (blk_below HK1.out (below_alloc HX.out _)) 3).trans rfl; have hr04 : (wa.alloc (.cells #[.int .i64 0, .slice none 0 0] 45)).cell? ⟨g1, 4, none⟩ = some (.int .i64 num) := (blk_cell (blk_below HK1.out (below_alloc HX.out _)) 4).trans rfl; have HCa := Aside0.mk ha2; clear ho hb ha2) | (go_simp; go_at_call 38; ((with_reducible refine (ref07_CopyOp k A1 A2 A3 c1 c2 c3 n a b num  _ (Kd.C_below Hah1.out (below_step HB.out (by repeat (first | exact HX.out | apply below_alloc | apply below_drew | apply pw_below_drewN)))) (Kd.C_below Hah2.out (below_step HB.out (by repeat (first | exact HX.out | apply below_alloc | apply below_drew | apply pw_below_drewN)))) (Kd.C_below Hah3.out (below_step HB.out (by repeat (first | exact HX.out | apply below_alloc | apply below_drew | apply pw_below_drewN)))) as1 as2 as3).mono ?_)); intro e wb hp; obtain ⟨x1, x2, x3, he, o1, o2, o3, hb⟩ := hp.out; subst he; obtain ⟨Y1, y1, hv, i1, j1⟩ := o1.reads; subst hv; obtain ⟨Y2, y2, hv, i2, j2⟩ := o2.reads; subst hv; obtain ⟨Y3, y3, hv, i3, j3⟩ := o3.reads; subst hv; replace HX := Aside0.mk (below_step (by repeat (first | exact HX.out | apply below_alloc | apply below_drew | apply pw_below_drewN)) hb); (try replace HCa := Aside0.mk (Kd.C_below HCa.out (below_step (by repeat (first | exact Below.refl _ _ | apply below_alloc | apply below_drew | apply pw_below_drewN)) hb))); (try replace HY1 := Aside0.mk (Kd.C_below HY1.out (below_step (by repeat (first | exact Below.refl _ _ | apply below_alloc | apply below_drew | apply pw_below_drewN)) hb))); (try replace HY2 := Aside0.mk (Kd.C_below HY2.out (below_step (by repeat (first | exact Below.refl _ _ | apply below_alloc | apply below_drew | apply pw_below_drewN)) hb))); (try replace HY3 := Aside0.mk (Kd.C_below HY3.out (below_step (by repeat (first | exact Below.refl _ _ | apply below_alloc | apply below_drew | apply pw_below_drewN)) hb))); (first | replace HZ := Aside0.mk (blk_below HZ.out (below_step (by repeat (first | exact Below.refl _ _ | apply below_alloc | apply below_drew | apply pw_below_drewN)) hb)) | have HZ := Aside0.mk (blk_up (by repeat (first | exact Below.refl _ _ | apply below_drew | apply pw_below_drewN)) hb) | skip); (try have hs0 := z45_0 HZ.out); (try have hs1 := z45_1 HZ.out); (try have hsf0 := blk_frozen HZ.out 0); (try have hsf1 := blk_frozen HZ.out 1); have hxs_wb := HX.out.size; have hq00 : wb.cell? ⟨g1, 0, none⟩ = some (.int .i64 k) := (blk_cell (blk_below HK1.out HX.out) 0).trans rfl; have hq01 : wb.cell? ⟨g1, 1, none⟩ = some (.slice A1 n.length c1) := (blk_cell (blk_below HK1.out HX.out) 1).trans rfl; have hq02 : wb.cell? ⟨g1, 2, none⟩ = some (.slice A2 a.length c2) := (blk_cell (blk_below HK1.out HX.out) 2).trans rfl; have hq03 : wb.cell? ⟨g1, 3, none⟩ = some (.slice A3 b.length c3) := (blk_cell (blk_below HK1.out HX.out) 3).trans rfl; have hq04 : wb.cell? ⟨g1, 4, none⟩ = some (.int .i64 num) := (blk_cell (blk_below HK1.out HX.out) 4).trans rfl; have hr00 : (wb.alloc (.cells #[.int .i64 0, .slice none 0 0] 45)).cell? ⟨g1, 0, none⟩ = some (.int .i64 k) := (blk_cell (blk_below HK1.out (below_alloc HX.out _)) 0).trans rfl; have hr01 : (wb.alloc (.cells #[.int .i64 0, .slice none 0 0] 45)).cell? ⟨g1, 1, none⟩ = some (.slice A1 n.length c1) := (blk_cell (blk_below HK1.out (below_alloc HX.out _)) 1).trans rfl; have hr02 : (wb.alloc (.cells #[.int .i64 0, .slice none 0 0] 45)).cell? ⟨g1, 2, none⟩ = some (.slice A2 a.length c2) := (blk_cell (blk_below HK1.out (below_alloc HX.out _)) 2).trans rfl; have hr03 : (wb.alloc (.cells #[.int .i64 0, .slice none 0 0] 45)).cell? ⟨g1, 3, none⟩ = some (.slice A3 b.length c3) := (blk_cell (blk_below HK1.out (below_alloc HX.out _)) 3).trans rfl; have hr04 : (wb.alloc (.cells #[.int .i64 0, .slice none 0 0] 45)).cell? ⟨g1, 4, none⟩ = some (.int .i64 num) := (blk_cell (blk_below HK1.out (below_alloc HX.out _)) 4).trans rfl; have HY1 := Aside0.mk j1; have HY2 := Aside0.mk j2; have HY3 := Aside0.mk j3; clear o1 o2 o3 hb j1 j2 j3) | (go_simp; go_at_call 39; ((with_reducible refine (kv_Do Xa Y1 Y2 Y3 xa y1 y2 y3 l k n a b num _ (Kd.C_below HCa.out (by repeat (first | exact Below.refl _ _ | apply below_alloc | apply below_drew | apply pw_below_drewN))) ha1 (Kd.C_below HY1.out (by repeat (first | exact Below.refl _ _ | apply below_alloc | apply below_drew | apply pw_below_drewN))) (Kd.C_below HY2.out (by repeat (first | exact Below.refl _ _ | apply below_alloc | apply below_drew | apply pw_below_drewN))) (Kd.C_below HY3.out (by repeat (first | exact Below.refl _ _ | apply below_alloc | apply below_drew | apply pw_below_drewN))) HSM2.out ak).mono ?_)); intro e wc hp; rw [HE1.out] at hp; obtain ⟨vr, rv, N, he, hN, hS, hO, hb⟩ := hp.out; subst he; obtain ⟨Xr, xr, hv, hr1, hr2⟩ := Kd.S_reads hS; subst hv; obtain ⟨Vr, vc, hv, hv1, hv2⟩ := hO.reads; subst hv; replace HX := Aside0.mk (below_step (by repeat (first | exact HX.out | apply below_alloc | apply below_drew | apply pw_below_drewN)) hb); (try replace HCa := Aside0.mk (Kd.C_below HCa.out (below_step (by repeat (first | exact Below.refl _ _ | apply below_alloc | apply below_drew | apply pw_below_drewN)) hb))); (try replace HY1 := Aside0.mk (Kd.C_below HY1.out (below_step (by repeat (first | exact Below.refl _ _ | apply below_alloc | apply below_drew | apply pw_below_drewN)) hb))); (try replace HY2 := Aside0.mk (Kd.C_below HY2.out (below_step (by repeat (first | exact Below.refl _ _ | apply below_alloc | apply below_drew | apply pw_below_drewN)) hb))); (try replace HY3 := Aside0.mk (Kd.C_below HY3.out (below_step (by repeat (first | exact Below.refl _ _ | apply below_alloc | apply below_drew | apply pw_below_drewN)) hb))); (first | replace HZ := Aside0.mk (blk_below HZ.out (below_step (by repeat (first | exact Below.refl _ _ | apply below_alloc | apply below_drew | apply pw_below_drewN)) hb)) | have HZ := Aside0.mk (blk_up (by repeat (first | exact Below.refl _ _ | apply below_drew | apply pw_below_drewN)) hb) | skip); (try have hs0 := z45_0 HZ.out); (try have hs1 := z45_1 HZ.out); (try have hsf0 := blk_frozen HZ.out 0); (try have hsf1 := blk_frozen HZ.out 1); have hxs_wc := HX.out.size; have hq00 : wc.cell? ⟨g1, 0, none⟩ = some (.int .i64 k) := (blk_cell (blk_below HK1.out HX.out) 0).trans rfl; have hq01 : wc.cell? ⟨g1, 1, none⟩ = some (.slice A1 n.length c1) := (blk_cell (blk_below HK1.out HX.out) 1).trans rfl; have hq02 : wc.cell? ⟨g1, 2, none⟩ = some (.slice A2 a.length c2) := (blk_cell (blk_below HK1.out HX.out) 2).trans rfl; have hq03 : wc.cell? ⟨g1, 3, none⟩ = some (.slice A3 b.length c3) := (blk_cell (blk_below HK1.out HX.out) 3).trans rfl; have hq04 : wc.cell? ⟨g1, 4, none⟩ = some (.int .i64 num) := (blk_cell (blk_below HK1.out HX.out) 4).trans rfl; have HSr := Aside0.mk hS; have HOr := Aside0.mk hO; clear hS hO hb hr2 hv2 hN hp))
      all_goals
        go_wp2_with fail
        go_meet
        first
        | exact ⟨done_fin HZ.out (by first | exact Nat.le_refl _ | assumption) HSr.out HOr.out HX.out⟩
        | exact ⟨done_new HSr.out HOr.out HX.out⟩
    case rest =>
      rename World => w3
      obtain ⟨X1, x1, q1, V1, u1, hv1, hv2, hc1, hC, hK, hV, hb⟩ := hcut.out.out
      subst hv1
      subst hv2
      clear hcut
      replace HB := Aside0.mk (below_step HB.out hb)
      replace HK1 := Aside0.mk (blk_below HK1.out hb)
      clear hb
      have HC1 := Aside0.mk (hC)
      have HK_q1 := Aside0.mk (hK)
      have HV1 := Aside0.mk (hV)
      clear hC hK hV
      go_wp2_with fail
      refine (kv_Right X1 x1 r1.1 w3 HC1.out hc1).mono ?_
      rintro e w4 ⟨r, rfl, hb, hi⟩
      obtain rfl : r = true := hi.2 HG1.out
      clear hi
      replace HB := Aside0.mk (below_step HB.out hb)
      replace HK1 := Aside0.mk (blk_below HK1.out hb)
      replace HC1 := Aside0.mk (Kd.C_below HC1.out hb)
      replace HK_q1 := Aside0.mk (blk_below HK_q1.out hb)
      replace HV1 := Aside0.mk (Kd.C_below HV1.out hb)
      clear hb
      go_wp2_with fail
      refine (ref07_Find A0 E c0 ce l o w4 (Kd.C_below HR0.out HB.out) hc0 (Kd.C_below HEO.out HB.out) HSM2.out.1).mono ?_
      rintro e w5 ⟨i, rfl, hfi, hb⟩
      have HFI := Aside0.mk (find_get HG.out hfi)
      clear hfi
      replace HB := Aside0.mk (below_step HB.out hb)
      replace HK1 := Aside0.mk (blk_below HK1.out hb)
      replace HC1 := Aside0.mk (Kd.C_below HC1.out hb)
      replace HK_q1 := Aside0.mk (blk_below HK_q1.out hb)
      replace HV1 := Aside0.mk (Kd.C_below HV1.out hb)
      clear hb
      go_wp2_with fail
      refine (ref07_Find X1 E x1 ce r1.1 o w5 HC1.out hc1 (Kd.C_below HEO.out HB.out) (goodE_small HG1.out).1).mono ?_
      rintro e w6 ⟨j, rfl, hfj, hb⟩
      have HFJ := Aside0.mk (find_get HG1.out hfj)
      clear hfj
      replace HB := Aside0.mk (below_step HB.out hb)
      replace HK1 := Aside0.mk (blk_below HK1.out hb)
      replace HC1 := Aside0.mk (Kd.C_below HC1.out hb)
      replace HK_q1 := Aside0.mk (blk_below HK_q1.out hb)
      replace HV1 := Aside0.mk (Kd.C_below HV1.out hb)
      clear hb
      have hz0 : w6.cell? ⟨g1, 0, none⟩ = some (.int .i64 k) := (blk_cell HK1.out 0).trans rfl
      have hz1 : w6.cell? ⟨g1, 1, none⟩ = some (.slice A1 n.length c1) := (blk_cell HK1.out 1).trans rfl
      have hz2 : w6.cell? ⟨g1, 2, none⟩ = some (.slice A2 a.length c2) := (blk_cell HK1.out 2).trans rfl
      have hz3 : w6.cell? ⟨g1, 3, none⟩ = some (.slice A3 b.length c3) := (blk_cell HK1.out 3).trans rfl
      have hz4 : w6.cell? ⟨g1, 4, none⟩ = some (.int .i64 num) := (blk_cell HK1.out 4).trans rfl
      go_upto_region 9 with fail
      go_cut [64] (fun v wx => v = .bool false ∧ Aside0 (Below w6.heap.size w6 wx))
      case first =>
        have HEW := Aside0.mk (Kd.C_below HEO.out HB.out)
        have HNW := Aside0.mk (Kd.C_below Hah1.out HB.out)
        cases hq0 : sameB o n with
        | true =>
          go_wp2_with fail
          go_quiet (first | (go_at_call 22; exact quiet_of_drawn (ref01_Same E A1 ce c1 o n _ (Kd.C_drewN HEW.out _) (Kd.C_drewN HNW.out _))))
          go_wp2
          go_meet
          exact ⟨rfl, ⟨by repeat (first | exact Below.refl _ _ | apply below_alloc | apply pw_below_drewN)⟩⟩
        | false =>
          have hge := HGE.out (by rw [same_comm]; exact hq0)
          rcases HFI.out with ⟨hi1, rfl⟩ | ⟨hi1, hi2, hi3⟩
          · rcases HFJ.out with ⟨hj1, rfl⟩ | ⟨hj1, hj2, hj3⟩
            · clear hi1 hj1 hge
              go_wp2_with fail
              go_quiet (first | (go_at_call 22; exact quiet_of_drawn (ref01_Same E A1 ce c1 o n _ (Kd.C_drewN HEW.out _) (Kd.C_drewN HNW.out _))))
              go_wp2
              go_meet
              exact ⟨rfl, ⟨by repeat (first | exact Below.refl _ _ | apply below_alloc | apply pw_below_drewN)⟩⟩
            · rw [hj1, hi1] at hge; cases hge
          · rcases HFJ.out with ⟨hj1, rfl⟩ | ⟨hj1, hj2, hj3⟩
            · rw [hj1, hi1] at hge; cases hge
            · rw [hi1, hj1] at hge
              have hv : sameB (rd_T72 l i).f1 (rd_T72 r1.1 j).f1 = true := by rw [Option.some.inj hge]; exact sameB_refl' _
              clear hi1 hj1 hge
              have hd1 : decide (i < 0) = false := decide_eq_false (by omega)
              have hd2 : decide (j < 0) = false := decide_eq_false (by omega)
              have hd3 : decide (0 ≤ i) = true := decide_eq_true hi2
              have hlc := HC1.out.2.1
              obtain ⟨ad, P1, p1, P2, p2, e1, hx0, hx1, hl, hn, hl2, hn2⟩ := at_T72 (Kd.C_below HR0.out HB.out) i hi2 hi3
              obtain ⟨ad', Q1, t1, Q2, t2, e2, hy0, hy1, gl, gn, gl2, gn2⟩ := at_T72 HC1.out j hj2 hj3
              subst e1
              subst e2
              have HN2 := Aside0.mk hn2
              have GN2 := Aside0.mk gn2
              clear hn2 gn2 hn gn
              go_wp2_with fail
              go_quiet (first | (go_at_call 22; exact quiet_of_drawn (ref01_Same E A1 ce c1 o n _ (Kd.C_drewN HEW.out _) (Kd.C_drewN HNW.out _))) | (go_at_call 22; exact quiet_of_drawn (ref01_Same P2 Q2 p2 t2 (rd_T72 l i).f1 (rd_T72 r1.1 j).f1 _ (Kd.C_drewN HN2.out _) (Kd.C_drewN GN2.out _))))
              go_wp2
              go_meet
              exact ⟨rfl, ⟨by repeat (first | exact Below.refl _ _ | apply below_alloc | apply pw_below_drewN)⟩⟩
      case rest =>
        clear hz0 hz1 hz2 hz3 hz4
        rename World => w7
        obtain ⟨rfl, hbb⟩ := hcut
        have hb := hbb.out
        clear hbb
        replace HB := Aside0.mk (below_step HB.out hb)
        replace HK1 := Aside0.mk (blk_below HK1.out hb)
        replace HC1 := Aside0.mk (Kd.C_below HC1.out hb)
        replace HK_q1 := Aside0.mk (blk_below HK_q1.out hb)
        replace HV1 := Aside0.mk (Kd.C_below HV1.out hb)
        clear hb
        have hz0 : w7.cell? ⟨g1, 0, none⟩ = some (.int .i64 k) := (blk_cell HK1.out 0).trans rfl
        have hz1 : w7.cell? ⟨g1, 1, none⟩ = some (.slice A1 n.length c1) := (blk_cell HK1.out 1).trans rfl
        have hz2 : w7.cell? ⟨g1, 2, none⟩ = some (.slice A2 a.length c2) := (blk_cell HK1.out 2).trans rfl
        have hz3 : w7.cell? ⟨g1, 3, none⟩ = some (.slice A3 b.length c3) := (blk_cell HK1.out 3).trans rfl
        have hz4 : w7.cell? ⟨g1, 4, none⟩ = some (.int .i64 num) := (blk_cell HK1.out 4).trans rfl
        go_wp2_with (first | ((with_reducible refine gate_dst (N := 67) rfl ?_); refine ob_lit ([] : List Int) [] ?hg (N := 67) ?hd ?hr ?hi ?hm ?_; (case hd => rfl); (case hg => rfl); (case hr => first | (go_simp; done) | (go_simp; rfl)); (case hi => rfl); (case hm => simp); intro vl wl ho hb; have HOl := Aside0.mk ho; have HBl := Aside0.mk hb; have hl0 : wl.cell? ⟨g1, 0, none⟩ = some (.int .i64 k) := (blk_cell (blk_below HK1.out hb) 0).trans rfl; have hl1 : wl.cell? ⟨g1, 1, none⟩ = some (.slice A1 n.length c1) := (blk_cell (blk_below HK1.out hb) 1).trans rfl; have hl2 : wl.cell? ⟨g1, 2, none⟩ = some (.slice A2 a.length c2) := (blk_cell (blk_below HK1.out hb) 2).trans rfl; have hl3 : wl.cell? ⟨g1, 3, none⟩ = some (.slice A3 b.length c3) := (blk_cell (blk_below HK1.out hb) 3).trans rfl; have hl4 : wl.cell? ⟨g1, 4, none⟩ = some (.int .i64 num) := (blk_cell (blk_below HK1.out hb) 4).trans rfl; clear ho hb) | ((with_reducible refine gate_builtin (b := .append) (xs := #[.tmp 67, .tmp 69]) rfl ?_); at_builtin; refine ob_append rfl (.tmp 67) (.tmp 69) rfl rfl rfl HOl.out (Kd.C_below Hah1.out (below_step HB.out HBl.out)) ?hb ?hl ?_; (case hb => exact (below_size HBl.out)); (case hl => exact (by simp; omega)); intro va wa ho hg hat; obtain ⟨Av, cv, hv, hcv, hrv⟩ := ho.reads; subst hv; have HNv := Aside0.mk hrv; have HBn := Aside0.mk (below_grown' (B := w7.heap.size) HBl.out HOl.out (below_size HBl.out) hg); clear ho hg hat hrv))
        clear hz0 hz1 hz2 hz3 hz4
        have hb := HBn.out
        clear HBn HOl HBl hl0 hl1 hl2 hl3 hl4
        replace HB := Aside0.mk (below_step HB.out hb)
        replace HK1 := Aside0.mk (blk_below HK1.out hb)
        replace HC1 := Aside0.mk (Kd.C_below HC1.out hb)
        replace HK_q1 := Aside0.mk (blk_below HK_q1.out hb)
        replace HV1 := Aside0.mk (Kd.C_below HV1.out hb)
        clear hb
        refine (kv_Do X1 Av none none x1 cv 0 0 r1.1 1 n [] [] 0 wa HC1.out hc1 HNv.out (Kd.C_nil _ _) (Kd.C_nil _ _) (goodE_small HG1.out) (by omega)).mono ?_
        intro e wb hp
        rw [HE2.out] at hp
        obtain ⟨vr, rv, N, he, hN, hS, hO, hb⟩ := hp.out
        subst he
        obtain ⟨X2, x2, hv, hc2, hr2⟩ := Kd.S_reads hS
        subst hv
        obtain ⟨V2, u2, hv, hv1, hv2⟩ := hO.reads
        subst hv
        clear hS hO hN hp hv1 HNv
        replace HB := Aside0.mk (below_step HB.out hb)
        replace HK1 := Aside0.mk (blk_below HK1.out hb)
        replace HC1 := Aside0.mk (Kd.C_below HC1.out hb)
        replace HK_q1 := Aside0.mk (blk_below HK_q1.out hb)
        replace HV1 := Aside0.mk (Kd.C_below HV1.out hb)
        clear hb
        have HV2 := Aside0.mk (hv2)
        clear hv2 hr2
        obtain ⟨q2, hq2⟩ : ∃ g, g = wb.heap.size := ⟨_, rfl⟩
        obtain ⟨w8, hw8⟩ : ∃ W, W = wb.alloc (.cells #[.int .i64 r2.2.f0, .slice V2 r2.2.f1.length u2] 45) := ⟨_, rfl⟩
        have HX_w8 := Aside0.mk (show Below wb.heap.size wb w8 by rw [hw8]; exact below_alloc (Below.refl _ _) _)
        replace HB := Aside0.mk (below_step HB.out HX_w8.out)
        replace HK1 := Aside0.mk (blk_below HK1.out HX_w8.out)
        replace HC1 := Aside0.mk (Kd.C_below HC1.out HX_w8.out)
        replace HK_q1 := Aside0.mk (blk_below HK_q1.out HX_w8.out)
        replace HV1 := Aside0.mk (Kd.C_below HV1.out HX_w8.out)
        replace HV2 := Aside0.mk (Kd.C_below HV2.out HX_w8.out)
        clear HX_w8
        have HK_q2 := Aside0.mk (show w8.heap[q2]? = some (.cells #[.int .i64 r2.2.f0, .slice V2 r2.2.f1.length u2] 45 (0, 0)) by rw [hw8, hq2]; exact blk_new _ _)
        have HG_q2 := Aside0.mk (show wb.heap.size ≤ q2 from Nat.le_of_eq hq2.symm)
        have hl_q20 : (wb.alloc (.cells #[.int .i64 r2.2.f0, .slice V2 r2.2.f1.length u2] 45)).cell? ⟨wb.heap.size, 0, none⟩ = some (.int .i64 r2.2.f0) := by rw [← hw8, ← hq2]; exact (blk_cell HK_q2.out 0).trans rfl
        have hl_q21 : (wb.alloc (.cells #[.int .i64 r2.2.f0, .slice V2 r2.2.f1.length u2] 45)).cell? ⟨wb.heap.size, 1, none⟩ = some (.slice V2 r2.2.f1.length u2) := by rw [← hw8, ← hq2]; exact (blk_cell HK_q2.out 1).trans rfl
        go_upto_region 12 with fail
        try rw [← hq2]
        rw [← hw8]
        clear hl_q20 hl_q21
        clear hq2 hw8
        by_cases hk2 : k = 2
        · subst hk2
          cases hx : decide (r1.2.f0 = 0) with
          | true =>
            have hx0' : r1.2.f0 = 0 := of_decide_eq_true hx
            have hr2 := HAF.out.1 rfl hx0'
            rw [hr2] at HK_q2 HV2
            replace HK_q2 : Aside0 (w8.heap[q2]? = some (.cells #[.int .i64 0, .slice V2 a.length u2] 45 (0, 0))) := HK_q2
            replace HV2 : Aside0 (CB w8 V2 a) := HV2
            clear hr2
            rw [hx0'] at HK_q1
            clear hx hx0'
            have hz0 : w8.cell? ⟨g1, 0, none⟩ = some (.int .i64 2) := (blk_cell HK1.out 0).trans rfl
            have hz1 : w8.cell? ⟨g1, 1, none⟩ = some (.slice A1 n.length c1) := (blk_cell HK1.out 1).trans rfl
            have hz2 : w8.cell? ⟨g1, 2, none⟩ = some (.slice A2 a.length c2) := (blk_cell HK1.out 2).trans rfl
            have hz3 : w8.cell? ⟨g1, 3, none⟩ = some (.slice A3 b.length c3) := (blk_cell HK1.out 3).trans rfl
            have hz4 : w8.cell? ⟨g1, 4, none⟩ = some (.int .i64 num) := (blk_cell HK1.out 4).trans rfl
            have hx0 : w8.cell? ⟨q1, 0, none⟩ = some (.int .i64 0) := (blk_cell HK_q1.out 0).trans rfl
            have hx1 : w8.cell? ⟨q1, 1, none⟩ = some (.slice V1 r1.2.f1.length u1) := (blk_cell HK_q1.out 1).trans rfl
            have hy0 : w8.cell? ⟨q2, 0, none⟩ = some (.int .i64 0) := (blk_cell HK_q2.out 0).trans rfl
            have hy1 : w8.cell? ⟨q2, 1, none⟩ = some (.slice V2 a.length u2) := (blk_cell HK_q2.out 1).trans rfl
            go_wp2_with fail
            refine (ref01_Same V2 A2 u2 c2 a a w8 HV2.out (Kd.C_below Hah2.out HB.out)).mono ?_
            rintro e w9 ⟨he, hd⟩
            rw [sameB_refl'] at he
            subst he
            have hb := hd.below
            clear hd
            clear hz0 hz1 hz2 hz3 hz4 hx0 hx1 hy0 hy1
            replace HB := Aside0.mk (below_step HB.out hb)
            replace HK1 := Aside0.mk (blk_below HK1.out hb)
            replace HC1 := Aside0.mk (Kd.C_below HC1.out hb)
            replace HK_q1 := Aside0.mk (blk_below HK_q1.out hb)
            replace HV1 := Aside0.mk (Kd.C_below HV1.out hb)
            replace HV2 := Aside0.mk (Kd.C_below HV2.out hb)
            replace HK_q2 := Aside0.mk (blk_below HK_q2.out hb)
            clear hb
            go_wp2_with fail
            go_ret
            exact ⟨rfl, HB.out⟩
          | false =>
            have hxn := of_decide_eq_false hx
            have hxb : (r1.2.f0 == 0) = false := by simpa using hxn
            have hz0 : w8.cell? ⟨g1, 0, none⟩ = some (.int .i64 2) := (blk_cell HK1.out 0).trans rfl
            have hz1 : w8.cell? ⟨g1, 1, none⟩ = some (.slice A1 n.length c1) := (blk_cell HK1.out 1).trans rfl
            have hz2 : w8.cell? ⟨g1, 2, none⟩ = some (.slice A2 a.length c2) := (blk_cell HK1.out 2).trans rfl
            have hz3 : w8.cell? ⟨g1, 3, none⟩ = some (.slice A3 b.length c3) := (blk_cell HK1.out 3).trans rfl
            have hz4 : w8.cell? ⟨g1, 4, none⟩ = some (.int .i64 num) := (blk_cell HK1.out 4).trans rfl
            have hx0 : w8.cell? ⟨q1, 0, none⟩ = some (.int .i64 r1.2.f0) := (blk_cell HK_q1.out 0).trans rfl
            have hx1 : w8.cell? ⟨q1, 1, none⟩ = some (.slice V1 r1.2.f1.length u1) := (blk_cell HK_q1.out 1).trans rfl
            have hy0 : w8.cell? ⟨q2, 0, none⟩ = some (.int .i64 r2.2.f0) := (blk_cell HK_q2.out 0).trans rfl
            have hy1 : w8.cell? ⟨q2, 1, none⟩ = some (.slice V2 r2.2.f1.length u2) := (blk_cell HK_q2.out 1).trans rfl
            go_wp2_with fail
            go_ret
            exact ⟨rfl, HB.out⟩
        · by_cases hk3 : k = 3
          · subst hk3
            cases hx : decide (r1.2.f0 = 0) with
            | true =>
              have hx0' : r1.2.f0 = 0 := of_decide_eq_true hx
              have hr2 := HAF.out.2.1 rfl hx0'
              rw [hr2] at HK_q2 HV2
              replace HK_q2 : Aside0 (w8.heap[q2]? = some (.cells #[.int .i64 0, .slice V2 b.length u2] 45 (0, 0))) := HK_q2
              replace HV2 : Aside0 (CB w8 V2 b) := HV2
              clear hr2
              rw [hx0'] at HK_q1
              clear hx hx0'
              have hz0 : w8.cell? ⟨g1, 0, none⟩ = some (.int .i64 3) := (blk_cell HK1.out 0).trans rfl
              have hz1 : w8.cell? ⟨g1, 1, none⟩ = some (.slice A1 n.length c1) := (blk_cell HK1.out 1).trans rfl
              have hz2 : w8.cell? ⟨g1, 2, none⟩ = some (.slice A2 a.length c2) := (blk_cell HK1.out 2).trans rfl
              have hz3 : w8.cell? ⟨g1, 3, none⟩ = some (.slice A3 b.length c3) := (blk_cell HK1.out 3).trans rfl
              have hz4 : w8.cell? ⟨g1, 4, none⟩ = some (.int .i64 num) := (blk_cell HK1.out 4).trans rfl
              have hx0 : w8.cell? ⟨q1, 0, none⟩ = some (.int .i64 0) := (blk_cell HK_q1.out 0).trans rfl
              have hx1 : w8.cell? ⟨q1, 1, none⟩ = some (.slice V1 r1.2.f1.length u1) := (blk_cell HK_q1.out 1).trans rfl
              have hy0 : w8.cell? ⟨q2, 0, none⟩ = some (.int .i64 0) := (blk_cell HK_q2.out 0).trans rfl
              have hy1 : w8.cell? ⟨q2, 1, none⟩ = some (.slice V2 b.length u2) := (blk_cell HK_q2.out 1).trans rfl
              go_wp2_with fail
              refine (ref01_Same V2 A3 u2 c3 b b w8 HV2.out (Kd.C_below Hah3.out HB.out)).mono ?_
              rintro e w9 ⟨he, hd⟩
              rw [sameB_refl'] at he
              subst he
              have hb := hd.below
              clear hd
              clear hz0 hz1 hz2 hz3 hz4 hx0 hx1 hy0 hy1
              replace HB := Aside0.mk (below_step HB.out hb)
              replace HK1 := Aside0.mk (blk_below HK1.out hb)
              replace HC1 := Aside0.mk (Kd.C_below HC1.out hb)
              replace HK_q1 := Aside0.mk (blk_below HK_q1.out hb)
              replace HV1 := Aside0.mk (Kd.C_below HV1.out hb)
              replace HV2 := Aside0.mk (Kd.C_below HV2.out hb)
              replace HK_q2 := Aside0.mk (blk_below HK_q2.out hb)
              clear hb
              go_wp2_with fail
              go_ret
              exact ⟨rfl, HB.out⟩
            | false =>
              have hxn := of_decide_eq_false hx
              have hxb : (r1.2.f0 == 0) = false := by simpa using hxn
              have hz0 : w8.cell? ⟨g1, 0, none⟩ = some (.int .i64 3) := (blk_cell HK1.out 0).trans rfl
              have hz1 : w8.cell? ⟨g1, 1, none⟩ = some (.slice A1 n.length c1) := (blk_cell HK1.out 1).trans rfl
              have hz2 : w8.cell? ⟨g1, 2, none⟩ = some (.slice A2 a.length c2) := (blk_cell HK1.out 2).trans rfl
              have hz3 : w8.cell? ⟨g1, 3, none⟩ = some (.slice A3 b.length c3) := (blk_cell HK1.out 3).trans rfl
              have hz4 : w8.cell? ⟨g1, 4, none⟩ = some (.int .i64 num) := (blk_cell HK1.out 4).trans rfl
              have hx0 : w8.cell? ⟨q1, 0, none⟩ = some (.int .i64 r1.2.f0) := (blk_cell HK_q1.out 0).trans rfl
              have hx1 : w8.cell? ⟨q1, 1, none⟩ = some (.slice V1 r1.2.f1.length u1) := (blk_cell HK_q1.out 1).trans rfl
              have hy0 : w8.cell? ⟨q2, 0, none⟩ = some (.int .i64 r2.2.f0) := (blk_cell HK_q2.out 0).trans rfl
              have hy1 : w8.cell? ⟨q2, 1, none⟩ = some (.slice V2 r2.2.f1.length u2) := (blk_cell HK_q2.out 1).trans rfl
              go_wp2_with fail
              go_ret
              exact ⟨rfl, HB.out⟩
          · have hb2 : (k == 2) = false := by simpa using hk2
            have hb3 : (k == 3) = false := by simpa using hk3
            by_cases hk4 : k = 4
            · subst hk4
              by_cases hx5 : r1.2.f0 = 5
              · rw [hx5] at HK_q1
                have hz0 : w8.cell? ⟨g1, 0, none⟩ = some (.int .i64 4) := (blk_cell HK1.out 0).trans rfl
                have hz1 : w8.cell? ⟨g1, 1, none⟩ = some (.slice A1 n.length c1) := (blk_cell HK1.out 1).trans rfl
                have hz2 : w8.cell? ⟨g1, 2, none⟩ = some (.slice A2 a.length c2) := (blk_cell HK1.out 2).trans rfl
                have hz3 : w8.cell? ⟨g1, 3, none⟩ = some (.slice A3 b.length c3) := (blk_cell HK1.out 3).trans rfl
                have hz4 : w8.cell? ⟨g1, 4, none⟩ = some (.int .i64 num) := (blk_cell HK1.out 4).trans rfl
                have hx0 : w8.cell? ⟨q1, 0, none⟩ = some (.int .i64 5) := (blk_cell HK_q1.out 0).trans rfl
                have hx1 : w8.cell? ⟨q1, 1, none⟩ = some (.slice V1 r1.2.f1.length u1) := (blk_cell HK_q1.out 1).trans rfl
                have hy0 : w8.cell? ⟨q2, 0, none⟩ = some (.int .i64 r2.2.f0) := (blk_cell HK_q2.out 0).trans rfl
                have hy1 : w8.cell? ⟨q2, 1, none⟩ = some (.slice V2 r2.2.f1.length u2) := (blk_cell HK_q2.out 1).trans rfl
                go_wp2_with fail
                go_ret
                exact ⟨rfl, HB.out⟩
              · have hxb : (r1.2.f0 == 5) = false := by simpa using hx5
                have hy1 := HAF.out.2.2 rfl hx5
                rw [hy1] at HK_q2
                have hz0 : w8.cell? ⟨g1, 0, none⟩ = some (.int .i64 4) := (blk_cell HK1.out 0).trans rfl
                have hz1 : w8.cell? ⟨g1, 1, none⟩ = some (.slice A1 n.length c1) := (blk_cell HK1.out 1).trans rfl
                have hz2 : w8.cell? ⟨g1, 2, none⟩ = some (.slice A2 a.length c2) := (blk_cell HK1.out 2).trans rfl
                have hz3 : w8.cell? ⟨g1, 3, none⟩ = some (.slice A3 b.length c3) := (blk_cell HK1.out 3).trans rfl
                have hz4 : w8.cell? ⟨g1, 4, none⟩ = some (.int .i64 num) := (blk_cell HK1.out 4).trans rfl
                have hx0 : w8.cell? ⟨q1, 0, none⟩ = some (.int .i64 r1.2.f0) := (blk_cell HK_q1.out 0).trans rfl
                have hx1 : w8.cell? ⟨q1, 1, none⟩ = some (.slice V1 r1.2.f1.length u1) := (blk_cell HK_q1.out 1).trans rfl
                have hy0 : w8.cell? ⟨q2, 0, none⟩ = some (.int .i64 1) := (blk_cell HK_q2.out 0).trans rfl
                have hy1 : w8.cell? ⟨q2, 1, none⟩ = some (.slice V2 r2.2.f1.length u2) := (blk_cell HK_q2.out 1).trans rfl
                go_wp2_with fail
                go_ret
                exact ⟨rfl, HB.out⟩
            · have hb4 : (k == 4) = false := by simpa using hk4
              have hb5 : (k != 4) = true := by simp [bne, hb4]
              have hz0 : w8.cell? ⟨g1, 0, none⟩ = some (.int .i64 k) := (blk_cell HK1.out 0).trans rfl
              have hz1 : w8.cell? ⟨g1, 1, none⟩ = some (.slice A1 n.length c1) := (blk_cell HK1.out 1).trans rfl
              have hz2 : w8.cell? ⟨g1, 2, none⟩ = some (.slice A2 a.length c2) := (blk_cell HK1.out 2).trans rfl
              have hz3 : w8.cell? ⟨g1, 3, none⟩ = some (.slice A3 b.length c3) := (blk_cell HK1.out 3).trans rfl
              have hz4 : w8.cell? ⟨g1, 4, none⟩ = some (.int .i64 num) := (blk_cell HK1.out 4).trans rfl
              have hx0 : w8.cell? ⟨q1, 0, none⟩ = some (.int .i64 r1.2.f0) := (blk_cell HK_q1.out 0).trans rfl
              have hx1 : w8.cell? ⟨q1, 1, none⟩ = some (.slice V1 r1.2.f1.length u1) := (blk_cell HK_q1.out 1).trans rfl
              have hy0 : w8.cell? ⟨q2, 0, none⟩ = some (.int .i64 r2.2.f0) := (blk_cell HK_q2.out 0).trans rfl
              have hy1 : w8.cell? ⟨q2, 1, none⟩ = some (.slice V2 r2.2.f1.length u2) := (blk_cell HK_q2.out 1).trans rfl
              go_wp2_with fail
              go_ret
              exact ⟨rfl, HB.out⟩

end Go.Proofs.Ytophfoenaekfjaa

