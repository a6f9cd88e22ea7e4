/- The law KvCommutes. -/
import Derived.Test.YtophfoenaekfjaaKvKeepsm7
import Derived.Test.YtophfoenaekfjaaKvKeepsm8
import Derived.Test.YtophfoenaekfjaaKvCommutesm1
import Derived.Outline
import Derived.Deep.RegionLaw
import Derived.Deep.CutRange
import Derived.Deep.DeepCutAuto
namespace Go.Proofs.Ytophfoenaekfjaa
open Go.RowKit Go.Proofs.YtophfoenaekfjaaW.PrintWords Go.Proofs.YtophfoenaekfjaaW.PrintLast Go.Proofs.YtophfoenaekfjaaW.PrintMore Go.Proofs.Ytophfoenaekfjaa.PSnapEncodes
set_option linter.unusedVariables false
set_option linter.unusedSimpArgs false
theorem sameE_refl (l : List S72) : sameE l l := ⟨rfl, fun _ _ _ => ⟨sameB_refl' _, sameB_refl' _⟩⟩
theorem sameRB_refl (a : Int) (l : List Int) : sameRB a a l l = true := sameRB_iff.2 ⟨rfl, sameB_refl' _⟩
set_option maxHeartbeats 4000000 in
set_option maxRecDepth 100000 in
theorem law_KvCommutes (A0 : Option Addr) (c0 : Nat) (l : List S72) (k : Int) (A1 A2 A3 : Option Addr) (c1 c2 c3 : Nat) (n a b : List Int) (num : Int) (k' : Int) (B1 B2 B3 : Option Addr) (d1 d2 d3 : Nat) (m a' b' : List Int) (num' : Int) (w : World) (hr0 : Kd.C k72 w A0 l.length l) (hc0 : l.length ≤ c0) (hsm : smallE l) (ak : -9223372036854775808 ≤ k ∧ k ≤ 9223372036854775807) (ah1 : CB w A1 n) (am1 : n.length ≤ c1) (as1 : n.length ≤ 1048576) (ah2 : CB w A2 a) (am2 : a.length ≤ c2) (as2 : a.length ≤ 1048576) (ah3 : CB w A3 b) (am3 : b.length ≤ c3) (as3 : b.length ≤ 1048576) (bk : -9223372036854775808 ≤ k' ∧ k' ≤ 9223372036854775807) (bh1 : CB w B1 m) (bm1 : m.length ≤ d1) (bs1 : m.length ≤ 1048576) (bh2 : CB w B2 a') (bm2 : a'.length ≤ d2) (bs2 : a'.length ≤ 1048576) (bh3 : CB w B3 b') (bm3 : b'.length ≤ d3) (bs3 : b'.length ≤ 1048576) :
    Calls Try.prog 9 #[.slice A0 l.length c0, .agg #[.int .i64 k, .slice A1 n.length c1, .slice A2 a.length c2, .slice A3 b.length c3, .int .i64 num], .agg #[.int .i64 k', .slice B1 m.length d1, .slice B2 a'.length d2, .slice B3 b'.length d3, .int .i64 num']] w fun e w' => e = .returned (.bool true) ∧ Below w.heap.size w w' := by
  have HR0 := Aside0.mk hr0
  have HSM := Aside0.mk hsm
  have HSM2 := Aside0.mk (show l.length ≤ 1048576 ∧ ∀ x ∈ l, x.f0.length ≤ 1048576 ∧ x.f1.length ≤ 1048576 from hsm)
  have Hah1 := Aside0.mk ah1
  have Hah2 := Aside0.mk ah2
  have Hah3 := Aside0.mk ah3
  have Hbh1 := Aside0.mk bh1
  have Hbh2 := Aside0.mk bh2
  have Hbh3 := Aside0.mk bh3
  clear hr0 hsm ah1 ah2 ah3 bh1 bh2 bh3
  obtain ⟨g1, hg1⟩ : ∃ g, g = w.heap.size := ⟨_, rfl⟩
  obtain ⟨g2, hg2⟩ : ∃ g, g = w.heap.size + 1 := ⟨_, rfl⟩
  obtain ⟨W0, hW0⟩ : ∃ W, W = (w.alloc (.cells #[.int .i64 k, .slice A1 n.length c1, .slice A2 a.length c2, .slice A3 b.length c3, .int .i64 num] 63)).alloc (.cells #[.int .i64 k', .slice B1 m.length d1, .slice B2 a'.length d2, .slice B3 b'.length d3, .int .i64 num'] 63) := ⟨_, rfl⟩
  have HB := Aside0.mk (show Below w.heap.size w W0 from by rw [hW0]; exact below_alloc (below_alloc (Below.refl _ _) _) _)
  have HK1 := Aside0.mk (show W0.heap[g1]? = some (.cells #[.int .i64 k, .slice A1 n.length c1, .slice A2 a.length c2, .slice A3 b.length c3, .int .i64 num] 63 (0, 0)) from by rw [hW0, hg1]; exact blk_below (blk_new _ _) (below_alloc (Below.refl _ _) _))
  have HK2 := Aside0.mk (show W0.heap[g2]? = some (.cells #[.int .i64 k', .slice B1 m.length d1, .slice B2 a'.length d2, .slice B3 b'.length d3, .int .i64 num'] 63 (0, 0)) by rw [hW0, hg2, show w.heap.size + 1 = (w.alloc (.cells #[.int .i64 k, .slice A1 n.length c1, .slice A2 a.length c2, .slice A3 b.length c3, .int .i64 num] 63)).heap.size by simp]; exact blk_new _ _)
  go_enter Try.func9, Try.ntmps9
  go_wp2_with fail
  try rw [← hg2]
  try rw [← hg1]
  rw [← hW0]
  clear hg1 hg2 hW0
  refine (kvAlive W0).mono ?_
  rintro e w1 ⟨rfl, hb⟩
  replace HB := Aside0.mk (below_step HB.out hb)
  replace HK1 := Aside0.mk (blk_below HK1.out hb)
  replace HK2 := Aside0.mk (blk_below HK2.out hb)
  clear hb
  go_wp2_with fail
  refine (kv_Right A0 c0 l w1 (Kd.C_below HR0.out HB.out) hc0).mono ?_
  rintro e w2 ⟨r, rfl, hb, hi⟩
  have HI := Aside0.mk hi
  clear hi
  replace HB := Aside0.mk (below_step HB.out hb)
  replace HK1 := Aside0.mk (blk_below HK1.out hb)
  replace HK2 := Aside0.mk (blk_below HK2.out hb)
  clear hb
  cases r with
  | false =>
    go_wp2_with fail
    go_ret
    exact ⟨rfl, HB.out⟩
  | true =>
    have HG := Aside0.mk (HI.out.1 rfl)
    clear HI
    cases hq : decide ((62 : Int) < (l.length : Int)) with
    | true =>
      go_wp2_with fail
      go_ret
      exact ⟨rfl, HB.out⟩
    | false =>
      have h62 := of_decide_eq_false hq
      have hz0 : w2.cell? ⟨g1, 0, none⟩ = some (.int .i64 k) := (blk_cell HK1.out 0).trans rfl
      have hz1 : w2.cell? ⟨g1, 1, none⟩ = some (.slice A1 n.length c1) := (blk_cell HK1.out 1).trans rfl
      have hz2 : w2.cell? ⟨g1, 2, none⟩ = some (.slice A2 a.length c2) := (blk_cell HK1.out 2).trans rfl
      have hz3 : w2.cell? ⟨g1, 3, none⟩ = some (.slice A3 b.length c3) := (blk_cell HK1.out 3).trans rfl
      have hz4 : w2.cell? ⟨g1, 4, none⟩ = some (.int .i64 num) := (blk_cell HK1.out 4).trans rfl
      have hy0 : w2.cell? ⟨g2, 0, none⟩ = some (.int .i64 k') := (blk_cell HK2.out 0).trans rfl
      have hy1 : w2.cell? ⟨g2, 1, none⟩ = some (.slice B1 m.length d1) := (blk_cell HK2.out 1).trans rfl
      have hy2 : w2.cell? ⟨g2, 2, none⟩ = some (.slice B2 a'.length d2) := (blk_cell HK2.out 2).trans rfl
      have hy3 : w2.cell? ⟨g2, 3, none⟩ = some (.slice B3 b'.length d3) := (blk_cell HK2.out 3).trans rfl
      have hy4 : w2.cell? ⟨g2, 4, none⟩ = some (.int .i64 num') := (blk_cell HK2.out 4).trans rfl
      go_wp2_with fail
      refine (ref01_Same A1 B1 c1 d1 n m w2 (Kd.C_below Hah1.out HB.out) (Kd.C_below Hbh1.out HB.out)).mono ?_
      rintro e w3 ⟨rfl, hd⟩
      obtain ⟨sn, hsn⟩ : ∃ s, sameB n m = s := ⟨_, rfl⟩
      rw [hsn]
      have HSN := Aside0.mk hsn
      have hb := hd.below
      clear hd hsn
      clear hz0 hz1 hz2 hz3 hz4 hy0 hy1 hy2 hy3 hy4
      replace HB := Aside0.mk (below_step HB.out hb)
      replace HK1 := Aside0.mk (blk_below HK1.out hb)
      replace HK2 := Aside0.mk (blk_below HK2.out hb)
      clear hb
      cases sn with
      | true =>
        go_wp2_with fail
        go_ret
        exact ⟨rfl, HB.out⟩
      | false =>
        obtain ⟨r1, h1⟩ : ∃ r, kvDo l k n a b num = r := ⟨_, rfl⟩
        obtain ⟨r2, h2⟩ : ∃ r, kvDo r1.1 k' m a' b' num' = r := ⟨_, rfl⟩
        obtain ⟨r3, h3⟩ : ∃ r, kvDo l k' m a' b' num' = r := ⟨_, rfl⟩
        obtain ⟨r4, h4⟩ : ∃ r, kvDo r3.1 k n a b num = r := ⟨_, rfl⟩
        have hcm := kv_comm HG.out (by omega) (k := k) (k' := k') (a := a) (b := b) (a' := a') (b' := b') (num := num) (num' := num') HSN.out
        rw [h1, h3, h2, h4] at hcm
        have HCM := Aside0.mk hcm
        have hg1 := good_kv HG.out k n a b num
        rw [h1] at hg1
        have hg3 := good_kv HG.out k' m a' b' num'
        rw [h3] at hg3
        have HG1 := Aside0.mk hg1
        have HG3 := Aside0.mk hg3
        have HE1 := Aside0.mk h1
        clear h1
        have HE2 := Aside0.mk h2
        clear h2
        have HE3 := Aside0.mk h3
        clear h3
        have HE4 := Aside0.mk h4
        clear h4
        clear hcm hg1 hg3
        go_upto_region 5 with fail
        go_cut [7, 8] (fun u7 u8 wx => Aside0 (DoneK w3 r1 u7 u8 wx))
        case first =>
          have HX := Aside0.mk (Below.refl w3.heap.size w3)
          have hz0 : w3.cell? ⟨g1, 0, none⟩ = some (.int .i64 k) := (blk_cell HK1.out 0).trans rfl
          have hz1 : w3.cell? ⟨g1, 1, none⟩ = some (.slice A1 n.length c1) := (blk_cell HK1.out 1).trans rfl
          have hz2 : w3.cell? ⟨g1, 2, none⟩ = some (.slice A2 a.length c2) := (blk_cell HK1.out 2).trans rfl
          have hz3 : w3.cell? ⟨g1, 3, none⟩ = some (.slice A3 b.length c3) := (blk_cell HK1.out 3).trans rfl
          have hz4 : w3.cell? ⟨g1, 4, none⟩ = some (.int .i64 num) := (blk_cell HK1.out 4).trans rfl
          have hy0 : w3.cell? ⟨g2, 0, none⟩ = some (.int .i64 k') := (blk_cell HK2.out 0).trans rfl
          have hy1 : w3.cell? ⟨g2, 1, none⟩ = some (.slice B1 m.length d1) := (blk_cell HK2.out 1).trans rfl
          have hy2 : w3.cell? ⟨g2, 2, none⟩ = some (.slice B2 a'.length d2) := (blk_cell HK2.out 2).trans rfl
          have hy3 : w3.cell? ⟨g2, 3, none⟩ = some (.slice B3 b'.length d3) := (blk_cell HK2.out 3).trans rfl
          have hy4 : w3.cell? ⟨g2, 4, none⟩ = some (.int .i64 num') := (blk_cell HK2.out 4).trans rfl
          have hr00 : (w3.alloc (.cells #[.int .i64 0, .slice none 0 0] 45)).cell? ⟨g1, 0, none⟩ = some (.int .i64 k) := (blk_cell (blk_below HK1.out (below_alloc HX.out _)) 0).trans rfl
          have hr01 : (w3.alloc (.cells #[.int .i64 0, .slice none 0 0] 45)).cell? ⟨g1, 1, none⟩ = some (.slice A1 n.length c1) := (blk_cell (blk_below HK1.out (below_alloc HX.out _)) 1).trans rfl
          have hr02 : (w3.alloc (.cells #[.int .i64 0, .slice none 0 0] 45)).cell? ⟨g1, 2, none⟩ = some (.slice A2 a.length c2) := (blk_cell (blk_below HK1.out (below_alloc HX.out _)) 2).trans rfl
          have hr03 : (w3.alloc (.cells #[.int .i64 0, .slice none 0 0] 45)).cell? ⟨g1, 3, none⟩ = some (.slice A3 b.length c3) := (blk_cell (blk_below HK1.out (below_alloc HX.out _)) 3).trans rfl
          have hr04 : (w3.alloc (.cells #[.int .i64 0, .slice none 0 0] 45)).cell? ⟨g1, 4, none⟩ = some (.int .i64 num) := (blk_cell (blk_below HK1.out (below_alloc HX.out _)) 4).trans rfl
          have hr10 : (w3.alloc (.cells #[.int .i64 0, .slice none 0 0] 45)).cell? ⟨g2, 0, none⟩ = some (.int .i64 k') := (blk_cell (blk_below HK2.out (below_alloc HX.out _)) 0).trans rfl
          have hr11 : (w3.alloc (.cells #[.int .i64 0, .slice none 0 0] 45)).cell? ⟨g2, 1, none⟩ = some (.slice B1 m.length d1) := (blk_cell (blk_below HK2.out (below_alloc HX.out _)) 1).trans rfl
          have hr12 : (w3.alloc (.cells #[.int .i64 0, .slice none 0 0] 45)).cell? ⟨g2, 2, none⟩ = some (.slice B2 a'.length d2) := (blk_cell (blk_below HK2.out (below_alloc HX.out _)) 2).trans rfl
          have hr13 : (w3.alloc (.cells #[.int .i64 0, .slice none 0 0] 45)).cell? ⟨g2, 3, none⟩ = some (.slice B3 b'.length d3) := (blk_cell (blk_below HK2.out (below_alloc HX.out _)) 3).trans rfl
          have hr14 : (w3.alloc (.cells #[.int .i64 0, .slice none 0 0] 45)).cell? ⟨g2, 4, none⟩ = some (.int .i64 num') := (blk_cell (blk_below HK2.out (below_alloc HX.out _)) 4).trans rfl
          go_wp2_with fail
          go_region_law (first | (go_simp; go_at_call 37; ((with_reducible refine (ref07_Copy A0 c0 l _ (Kd.C_below HR0.out (below_step HB.out (by repeat (first | exact HX.out | apply below_alloc | apply below_drew | apply pw_below_drewN)))) hc0 HSM.out).mono ?_)); intro e wa hp; obtain ⟨va, he, ho, hb⟩ := hp.out; subst he; obtain ⟨Xa, xa, hv, ha1, ha2⟩ := Kd.S_reads ho; subst hv; replace HX := Aside0.mk (below_step (by repeat (first | exact HX.out | apply below_alloc | apply below_drew | apply pw_below_drewN)) hb); (try replace HCa := Aside0.mk (Kd.C_below HCa.out (below_step (by repeat (first | exact Below.refl _ _ | apply below_alloc | apply below_drew | apply pw_below_drewN)) hb))); (try replace HY1 := Aside0.mk (Kd.C_below HY1.out (below_step (by repeat (first | exact Below.refl _ _ | apply below_alloc | apply below_drew | apply pw_below_drewN)) hb))); (try replace HY2 := Aside0.mk (Kd.C_below HY2.out (below_step (by repeat (first | exact Below.refl _ _ | apply below_alloc | apply below_drew | apply pw_below_drewN)) hb))); (try replace HY3 := Aside0.mk (Kd.C_below HY3.out (below_step (by repeat (first | exact Below.refl _ _ | apply below_alloc | apply below_drew | apply pw_below_drewN)) hb))); (first | replace HZ := Aside0.mk (blk_below HZ.out (below_step (by repeat (first | exact Below.refl _ _ | apply below_alloc | apply below_drew | apply pw_below_drewN)) hb)) | have HZ := Aside0.mk (blk_up (by repeat (first | exact Below.refl _ _ | apply below_drew | apply pw_below_drewN)) hb) | skip); (try have hs0 := z45_0 HZ.out); (try have hs1 := z45_1 HZ.out); (try have hsf0 := blk_frozen HZ.out 0); (try have hsf1 := blk_frozen HZ.out 1); have hxs_wa := HX.out.size; have hq00 : wa.cell? ⟨g1, 0, none⟩ = some (.int .i64 k) := (blk_cell (blk_below HK1.out HX.out) 0).trans rfl; have hq01 : wa.cell? ⟨g1, 1, none⟩ = some (.slice A1 n.length c1) := (blk_cell (blk_below HK1.out HX.out) 1).trans rfl; have hq02 : wa.cell? ⟨g1, 2, none⟩ = some (.slice A2 a.length c2) := (blk_cell (blk_below HK1.out HX.out) 2).trans rfl; have hq03 : wa.cell? ⟨g1, 3, none⟩ = some (.slice A3 b.length c3) := (blk_cell (blk_below HK1.out HX.out) 3).trans rfl; have hq04 : wa.cell? ⟨g1, 4, none⟩ = some (.int .i64 num) := (blk_cell (blk_below HK1.out HX.out) 4).trans rfl; have hq10 : wa.cell? ⟨g2, 0, none⟩ = some (.int .i64 k') := (blk_cell (blk_below HK2.out HX.out) 0).trans rfl; have hq11 : wa.cell? ⟨g2, 1, none⟩ = some (.slice B1 m.length d1) := (blk_cell (blk_below HK2.out HX.out) 1).trans rfl; have hq12 : wa.cell? ⟨g2, 2, none⟩ = some (.slice B2 a'.length d2) := (blk_cell (blk_below HK2.out HX.out) 2).trans rfl; have hq13 : wa.cell? ⟨g2, 3, none⟩ = some (.slice B3 b'.length d3) := (blk_cell (blk_below HK2.out HX.out) 3).trans rfl; have hq14 : wa.cell? ⟨g2, 4, none⟩ = some (.int .i64 num') := (blk_cell (blk_below HK2.out HX.out) 4).trans rfl; have hr00 : (wa.alloc (.cells #[.int .i64 0, .slice none 0 0] 45)).cell? ⟨g1, 0, none⟩ = some (.int .i64 k) := (blk_cell (blk_below HK1.out (below_alloc HX.out _)) 0).trans rfl; have hr01 : (wa.alloc (.cells #[.int .i64 0, .slice none 0 0] 45)).cell? ⟨g1, 1, none⟩ = some (.slice A1 n.length c1) := (blk_cell (blk_below HK1.out (below_alloc HX.out _)) 1).trans rfl; have hr02 : (wa.alloc (.cells #[.int .i64 0, .slice none 0 0] 45)).cell? ⟨g1, 2, none⟩ = some (.slice A2 a.length c2) := (blk_cell (blk_below HK1.out (below_alloc HX.out _)) 2).trans rfl; have hr03 : (wa.alloc (.cells #[.int .i64 0, .slice none 0 0] 45)).cell? ⟨g1, 3, none⟩ = some (.slice A3 b.length c3) := (blk_cell (blk_below HK1.out (below_alloc HX.out _)) 3).trans rfl; have hr04 : (wa.alloc (.cells #[.int .i64 0, .slice none 0 0] 45)).cell? ⟨g1, 4, none⟩ = some (.int .i64 num) := (blk_cell (blk_below HK1.out (below_alloc HX.out _)) 4).trans rfl; have hr10 : (wa.alloc (.cells #[.int .i64 0, .slice none 0 0] 45)).cell? ⟨g2, 0, none⟩ = some (.int .i64 k') := (blk_cell (blk_below HK2.out (below_alloc HX.out _)) 0).trans rfl; have hr11 : (wa.alloc (.cells #[.int .i64 0, .slice none 0 0] 45)).cell? ⟨g2, 1, none⟩ = some (.slice B1 m.length d1) := (blk_cell (blk_below HK2.out (below_alloc HX.out _)) 1).trans rfl; have hr12 : (wa.alloc (.cells #[.int .i64 0, .slice none 0 0] 45)).cell? ⟨g2, 2, none⟩ = some (.slice B2 a'.length d2) := (blk_cell (blk_below HK2.out (below_alloc HX.out _)) 2).trans rfl; have hr13 : (wa.alloc (.cells #[.int .i64 0, .slice none 0 0] 45)).cell? ⟨g2, 3, none⟩ = some (.slice B3 b'.length d3) := (blk_cell (blk_below HK2.out (below_alloc HX.out _)) 3).trans rfl; have hr14 : (wa.alloc (.cells #[.int .i64 0, .slice none 0 0] 45)).cell? ⟨g2, 4, none⟩ = some (.int .i64 num') := (blk_cell (blk_below HK2.out (below_alloc HX.out _)) 4).trans rfl; have HCa := Aside0.mk ha2; clear ho hb ha2) | (go_simp; go_at_call 38; ((with_reducible refine (ref07_CopyOp k A1 A2 A3 c1 c2 c3 n a b num  _ (Kd.C_below Hah1.out (below_step HB.out (by repeat (first | exact HX.out | apply below_alloc | apply below_drew | apply pw_below_drewN)))) (Kd.C_below Hah2.out (below_step HB.out (by repeat (first | exact HX.out | apply below_alloc | apply below_drew | apply pw_below_drewN)))) (Kd.C_below Hah3.out (below_step HB.out (by repeat (first | exact HX.out | apply below_alloc | apply below_drew | apply pw_below_drewN)))) as1 as2 as3).mono ?_)); intro e wb hp; obtain ⟨x1, x2, x3, he, o1, o2, o3, hb⟩ := hp.out; subst he; obtain ⟨Y1, y1, hv, i1, j1⟩ := o1.reads; subst hv; obtain ⟨Y2, y2, hv, i2, j2⟩ := o2.reads; subst hv; obtain ⟨Y3, y3, hv, i3, j3⟩ := o3.reads; subst hv; replace HX := Aside0.mk (below_step (by repeat (first | exact HX.out | apply below_alloc | apply below_drew | apply pw_below_drewN)) hb); (try replace HCa := Aside0.mk (Kd.C_below HCa.out (below_step (by repeat (first | exact Below.refl _ _ | apply below_alloc | apply below_drew | apply pw_below_drewN)) hb))); (try replace HY1 := Aside0.mk (Kd.C_below HY1.out (below_step (by repeat (first | exact Below.refl _ _ | apply below_alloc | apply below_drew | apply pw_below_drewN)) hb))); (try replace HY2 := Aside0.mk (Kd.C_below HY2.out (below_step (by repeat (first | exact Below.refl _ _ | apply below_alloc | apply below_drew | apply pw_below_drewN)) hb))); (try replace HY3 := Aside0.mk (Kd.C_below HY3.out (below_step (by repeat (first | exact Below.refl _ _ | apply below_alloc | apply below_drew | apply pw_below_drewN)) hb))); (first | replace HZ := Aside0.mk (blk_below HZ.out (below_step (by repeat (first | exact Below.refl _ _ | apply below_alloc | apply below_drew | apply pw_below_drewN)) hb)) | have HZ := Aside0.mk (blk_up (by repeat (first | exact Below.refl _ _ | apply below_drew | apply pw_below_drewN)) hb) | skip); (try have hs0 := z45_0 HZ.out); (try have hs1 := z45_1 HZ.out); (try have hsf0 := blk_frozen HZ.out 0); (try have hsf1 := blk_frozen HZ.out 1); have hxs_wb := HX.out.size; have hq00 : wb.cell? ⟨g1, 0, none⟩ = some (.int .i64 k) := (blk_cell (blk_below HK1.out HX.out) 0).trans rfl; have hq01 : wb.cell? ⟨g1, 1, none⟩ = some (.slice A1 n.length c1) := (blk_cell (blk_below HK1.out HX.out) 1).trans rfl; have hq02 : wb.cell? ⟨g1, 2, none⟩ = some (.slice A2 a.length c2) := (blk_cell (blk_below HK1.out HX.out) 2).trans rfl; have hq03 : wb.cell? ⟨g1, 3, none⟩ = some (.slice A3 b.length c3) := (blk_cell (blk_below HK1.out HX.out) 3).trans rfl; have hq04 : wb.cell? ⟨g1, 4, none⟩ = some (.int .i64 num) := (blk_cell (blk_below HK1.out HX.out) 4).trans rfl; have hq10 : wb.cell? ⟨g2, 0, none⟩ = some (.int .i64 k') := (blk_cell (blk_below HK2.out HX.out) 0).trans rfl; have hq11 : wb.cell? ⟨g2, 1, none⟩ = some (.slice B1 m.length d1) := (blk_cell (blk_below HK2.out HX.out) 1).trans rfl; have hq12 : wb.cell? ⟨g2, 2, none⟩ = some (.slice B2 a'.length d2) := (blk_cell (blk_below HK2.out HX.out) 2).trans rfl; have hq13 : wb.cell? ⟨g2, 3, none⟩ = some (.slice B3 b'.length d3) := (blk_cell (blk_below HK2.out HX.out) 3).trans rfl; have hq14 : wb.cell? ⟨g2, 4, none⟩ = some (.int .i64 num') := (blk_cell (blk_below HK2.out HX.out) 4).trans rfl; have hr00 : (wb.alloc (.cells #[.int .i64 0, .slice none 0 0] 45)).cell? ⟨g1, 0, none⟩ = some (.int .i64 k) := (blk_cell (blk_below HK1.out (below_alloc HX.out _)) 0).trans rfl; have hr01 : (wb.alloc (.cells #[.int .i64 0, .slice none 0 0] 45)).cell? ⟨g1, 1, none⟩ = some (.slice A1 n.length c1) := (blk_cell (blk_below HK1.out (below_alloc HX.out _)) 1).trans rfl; have hr02 : (wb.alloc (.cells #[.int .i64 0, .slice none 0 0] 45)).cell? ⟨g1, 2, none⟩ = some (.slice A2 a.length c2) := (blk_cell (blk_below HK1.out (below_alloc HX.out _)) 2).trans rfl; have hr03 : (wb.alloc (.cells #[.int .i64 0, .slice none 0 0] 45)).cell? ⟨g1, 3, none⟩ = some (.slice A3 b.length c3) := (blk_cell (blk_below HK1.out (below_alloc HX.out _)) 3).trans rfl; have hr04 : (wb.alloc (.cells #[.int .i64 0, .slice none 0 0] 45)).cell? ⟨g1, 4, none⟩ = some (.int .i64 num) := (blk_cell (blk_below HK1.out (below_alloc HX.out _)) 4).trans rfl; have hr10 : (wb.alloc (.cells #[.int .i64 0, .slice none 0 0] 45)).cell? ⟨g2, 0, none⟩ = some (.int .i64 k') := (blk_cell (blk_below HK2.out (below_alloc HX.out _)) 0).trans rfl; have hr11 : (wb.alloc (.cells #[.int .i64 0, .slice none 0 0] 45)).cell? ⟨g2, 1, none⟩ = some (.slice B1 m.length d1) := (blk_cell (blk_below HK2.out (below_alloc HX.out _)) 1).trans rfl; have hr12 : (wb.alloc (.cells #[.int .i64 0, .slice none 0 0] 45)).cell? ⟨g2, 2, none⟩ = some (.slice B2 a'.length d2) := (blk_cell (blk_below HK2.out (below_alloc HX.out _)) 2).trans rfl; have hr13 : (wb.alloc (.cells #[.int .i64 0, .slice none 0 0] 45)).cell? ⟨g2, 3, none⟩ = some (.slice B3 b'.length d3) := (blk_cell (blk_below HK2.out (below_alloc HX.out _)) 3).trans rfl; have hr14 : (wb.alloc (.cells #[.int .i64 0, .slice none 0 0] 45)).cell? ⟨g2, 4, none⟩ = some (.int .i64 num') := (blk_cell (blk_below HK2.out (below_alloc HX.out _)) 4).trans rfl; have HY1 := Aside0.mk j1; have HY2 := Aside0.mk j2; have HY3 := Aside0.mk j3; clear o1 o2 o3 hb j1 j2 j3) | (go_simp; go_at_call 39; ((with_reducible refine (kv_Do Xa Y1 Y2 Y3 xa y1 y2 y3 l k n a b num _ (Kd.C_below HCa.out (by repeat (first | exact Below.refl _ _ | apply below_alloc | apply below_drew | apply pw_below_drewN))) ha1 (Kd.C_below HY1.out (by repeat (first | exact Below.refl _ _ | apply below_alloc | apply below_drew | apply pw_below_drewN))) (Kd.C_below HY2.out (by repeat (first | exact Below.refl _ _ | apply below_alloc | apply below_drew | apply pw_below_drewN))) (Kd.C_below HY3.out (by repeat (first | exact Below.refl _ _ | apply below_alloc | apply below_drew | apply pw_below_drewN))) HSM2.out ak).mono ?_)); intro e wc hp; rw [HE1.out] at hp; obtain ⟨vr, rv, N, he, hN, hS, hO, hb⟩ := hp.out; subst he; obtain ⟨Xr, xr, hv, hr1, hr2⟩ := Kd.S_reads hS; subst hv; obtain ⟨Vr, vc, hv, hv1, hv2⟩ := hO.reads; subst hv; replace HX := Aside0.mk (below_step (by repeat (first | exact HX.out | apply below_alloc | apply below_drew | apply pw_below_drewN)) hb); (try replace HCa := Aside0.mk (Kd.C_below HCa.out (below_step (by repeat (first | exact Below.refl _ _ | apply below_alloc | apply below_drew | apply pw_below_drewN)) hb))); (try replace HY1 := Aside0.mk (Kd.C_below HY1.out (below_step (by repeat (first | exact Below.refl _ _ | apply below_alloc | apply below_drew | apply pw_below_drewN)) hb))); (try replace HY2 := Aside0.mk (Kd.C_below HY2.out (below_step (by repeat (first | exact Below.refl _ _ | apply below_alloc | apply below_drew | apply pw_below_drewN)) hb))); (try replace HY3 := Aside0.mk (Kd.C_below HY3.out (below_step (by repeat (first | exact Below.refl _ _ | apply below_alloc | apply below_drew | apply pw_below_drewN)) hb))); (first | replace HZ := Aside0.mk (blk_below HZ.out (below_step (by repeat (first | exact Below.refl _ _ | apply below_alloc | apply below_drew | apply pw_below_drewN)) hb)) | have HZ := Aside0.mk (blk_up (by repeat (first | exact Below.refl _ _ | apply below_drew | apply pw_below_drewN)) hb) | skip); (try have hs0 := z45_0 HZ.out); (try have hs1 := z45_1 HZ.out); (try have hsf0 := blk_frozen HZ.out 0); (try have hsf1 := blk_frozen HZ.out 1); have hxs_wc := HX.out.size; have hq00 : wc.cell? ⟨g1, 0, none⟩ = some (.int .i64 k) := (blk_cell (blk_below HK1.out HX.out) 0).trans rfl; have hq01 : wc.cell? ⟨g1, 1, none⟩ = some (.slice A1 n.length c1) := (blk_cell (blk_below HK1.out HX.out) 1).trans rfl; have hq02 : wc.cell? ⟨g1, 2, none⟩ = some (.slice A2 a.length c2) := (blk_cell (blk_below HK1.out HX.out) 2).trans rfl; have hq03 : wc.cell? ⟨g1, 3, none⟩ = some (.slice A3 b.length c3) := (blk_cell (blk_below HK1.out HX.out) 3).trans rfl; have hq04 : wc.cell? ⟨g1, 4, none⟩ = some (.int .i64 num) := (blk_cell (blk_below HK1.out HX.out) 4).trans rfl; have hq10 : wc.cell? ⟨g2, 0, none⟩ = some (.int .i64 k') := (blk_cell (blk_below HK2.out HX.out) 0).trans rfl; have hq11 : wc.cell? ⟨g2, 1, none⟩ = some (.slice B1 m.length d1) := (blk_cell (blk_below HK2.out HX.out) 1).trans rfl; have hq12 : wc.cell? ⟨g2, 2, none⟩ = some (.slice B2 a'.length d2) := (blk_cell (blk_below HK2.out HX.out) 2).trans rfl; have hq13 : wc.cell? ⟨g2, 3, none⟩ = some (.slice B3 b'.length d3) := (blk_cell (blk_below HK2.out HX.out) 3).trans rfl; have hq14 : wc.cell? ⟨g2, 4, none⟩ = some (.int .i64 num') := (blk_cell (blk_below HK2.out HX.out) 4).trans rfl; have HSr := Aside0.mk hS; have HOr := Aside0.mk hO; clear hS hO hb hr2 hv2 hN hp))
          all_goals
            go_wp2_with fail
            go_meet
            first
            | exact ⟨done_fin HZ.out (by first | exact Nat.le_refl _ | assumption) HSr.out HOr.out HX.out⟩
            | exact ⟨done_new HSr.out HOr.out HX.out⟩
        case rest =>
          rename World => w4
          obtain ⟨X1, x1, q1, V1, u1, hv1, hv2, hc1, hC, hK, hV, hb⟩ := hcut.out.out
          subst hv1
          subst hv2
          clear hcut
          replace HB := Aside0.mk (below_step HB.out hb)
          replace HK1 := Aside0.mk (blk_below HK1.out hb)
          replace HK2 := Aside0.mk (blk_below HK2.out hb)
          clear hb
          have HC1 := Aside0.mk (hC)
          have HK_q1 := Aside0.mk (hK)
          have HV1 := Aside0.mk (hV)
          clear hC hK hV
          have hz0 : w4.cell? ⟨g2, 0, none⟩ = some (.int .i64 k') := (blk_cell HK2.out 0).trans rfl
          have hz1 : w4.cell? ⟨g2, 1, none⟩ = some (.slice B1 m.length d1) := (blk_cell HK2.out 1).trans rfl
          have hz2 : w4.cell? ⟨g2, 2, none⟩ = some (.slice B2 a'.length d2) := (blk_cell HK2.out 2).trans rfl
          have hz3 : w4.cell? ⟨g2, 3, none⟩ = some (.slice B3 b'.length d3) := (blk_cell HK2.out 3).trans rfl
          have hz4 : w4.cell? ⟨g2, 4, none⟩ = some (.int .i64 num') := (blk_cell HK2.out 4).trans rfl
          go_wp2_with fail
          refine (ref07_CopyOp k' B1 B2 B3 d1 d2 d3 m a' b' num' w4 (Kd.C_below Hbh1.out HB.out) (Kd.C_below Hbh2.out HB.out) (Kd.C_below Hbh3.out HB.out) bs1 bs2 bs3).mono ?_
          intro e w5 hp
          obtain ⟨x1, x2, x3, he, o1, o2, o3, hb⟩ := hp.out
          subst he
          obtain ⟨Y1, y1, hv, i1, j1⟩ := o1.reads
          subst hv
          obtain ⟨Y2, y2, hv, i2, j2⟩ := o2.reads
          subst hv
          obtain ⟨Y3, y3, hv, i3, j3⟩ := o3.reads
          subst hv
          have HY1 := Aside0.mk j1
          have HY2 := Aside0.mk j2
          have HY3 := Aside0.mk j3
          clear o1 o2 o3 j1 j2 j3 hp
          clear hz0 hz1 hz2 hz3 hz4
          replace HB := Aside0.mk (below_step HB.out hb)
          replace HK1 := Aside0.mk (blk_below HK1.out hb)
          replace HK2 := Aside0.mk (blk_below HK2.out hb)
          replace HC1 := Aside0.mk (Kd.C_below HC1.out hb)
          replace HK_q1 := Aside0.mk (blk_below HK_q1.out hb)
          replace HV1 := Aside0.mk (Kd.C_below HV1.out hb)
          clear hb
          go_wp2_with fail
          refine (kv_Do X1 Y1 Y2 Y3 x1 y1 y2 y3 r1.1 k' m a' b' num' w5 HC1.out hc1 HY1.out HY2.out HY3.out (goodE_small HG1.out) bk).mono ?_
          intro e w6 hp
          rw [HE2.out] at hp
          obtain ⟨vr, rv, N, he, hN, hS, hO, hb⟩ := hp.out
          subst he
          obtain ⟨X2, x2, hv, hc2, hr2⟩ := Kd.S_reads hS
          subst hv
          obtain ⟨V2, u2, hv, hv1, hv2⟩ := hO.reads
          subst hv
          clear hS hO hN hp HY1 HY2 HY3 i1 i2 i3 hv1
          replace HB := Aside0.mk (below_step HB.out hb)
          replace HK1 := Aside0.mk (blk_below HK1.out hb)
          replace HK2 := Aside0.mk (blk_below HK2.out hb)
          replace HC1 := Aside0.mk (Kd.C_below HC1.out hb)
          replace HK_q1 := Aside0.mk (blk_below HK_q1.out hb)
          replace HV1 := Aside0.mk (Kd.C_below HV1.out hb)
          clear hb
          have HC2 := Aside0.mk (hr2)
          have HV2 := Aside0.mk (hv2)
          clear hr2 hv2
          obtain ⟨q2, hq2⟩ : ∃ g, g = w6.heap.size := ⟨_, rfl⟩
          obtain ⟨w7, hw7⟩ : ∃ W, W = w6.alloc (.cells #[.int .i64 r2.2.f0, .slice V2 r2.2.f1.length u2] 45) := ⟨_, rfl⟩
          have HX_w7 := Aside0.mk (show Below w6.heap.size w6 w7 by rw [hw7]; exact below_alloc (Below.refl _ _) _)
          replace HB := Aside0.mk (below_step HB.out HX_w7.out)
          replace HK1 := Aside0.mk (blk_below HK1.out HX_w7.out)
          replace HK2 := Aside0.mk (blk_below HK2.out HX_w7.out)
          replace HC1 := Aside0.mk (Kd.C_below HC1.out HX_w7.out)
          replace HK_q1 := Aside0.mk (blk_below HK_q1.out HX_w7.out)
          replace HV1 := Aside0.mk (Kd.C_below HV1.out HX_w7.out)
          replace HC2 := Aside0.mk (Kd.C_below HC2.out HX_w7.out)
          replace HV2 := Aside0.mk (Kd.C_below HV2.out HX_w7.out)
          clear HX_w7
          have HK_q2 := Aside0.mk (show w7.heap[q2]? = some (.cells #[.int .i64 r2.2.f0, .slice V2 r2.2.f1.length u2] 45 (0, 0)) by rw [hw7, hq2]; exact blk_new _ _)
          have HG_q2 := Aside0.mk (show w6.heap.size ≤ q2 from Nat.le_of_eq hq2.symm)
          have hl_q20 : (w6.alloc (.cells #[.int .i64 r2.2.f0, .slice V2 r2.2.f1.length u2] 45)).cell? ⟨w6.heap.size, 0, none⟩ = some (.int .i64 r2.2.f0) := by rw [← hw7, ← hq2]; exact (blk_cell HK_q2.out 0).trans rfl
          have hl_q21 : (w6.alloc (.cells #[.int .i64 r2.2.f0, .slice V2 r2.2.f1.length u2] 45)).cell? ⟨w6.heap.size, 1, none⟩ = some (.slice V2 r2.2.f1.length u2) := by rw [← hw7, ← hq2]; exact (blk_cell HK_q2.out 1).trans rfl
          go_upto_region 7 with fail
          try rw [← hq2]
          rw [← hw7]
          clear hl_q20 hl_q21
          clear hq2 hw7
          go_cut [10, 11] (fun u7 u8 wx => Aside0 (DoneK w7 r3 u7 u8 wx))
          case first =>
            have HX := Aside0.mk (Below.refl w7.heap.size w7)
            have hz0 : w7.cell? ⟨g1, 0, none⟩ = some (.int .i64 k) := (blk_cell HK1.out 0).trans rfl
            have hz1 : w7.cell? ⟨g1, 1, none⟩ = some (.slice A1 n.length c1) := (blk_cell HK1.out 1).trans rfl
            have hz2 : w7.cell? ⟨g1, 2, none⟩ = some (.slice A2 a.length c2) := (blk_cell HK1.out 2).trans rfl
            have hz3 : w7.cell? ⟨g1, 3, none⟩ = some (.slice A3 b.length c3) := (blk_cell HK1.out 3).trans rfl
            have hz4 : w7.cell? ⟨g1, 4, none⟩ = some (.int .i64 num) := (blk_cell HK1.out 4).trans rfl
            have hy0 : w7.cell? ⟨g2, 0, none⟩ = some (.int .i64 k') := (blk_cell HK2.out 0).trans rfl
            have hy1 : w7.cell? ⟨g2, 1, none⟩ = some (.slice B1 m.length d1) := (blk_cell HK2.out 1).trans rfl
            have hy2 : w7.cell? ⟨g2, 2, none⟩ = some (.slice B2 a'.length d2) := (blk_cell HK2.out 2).trans rfl
            have hy3 : w7.cell? ⟨g2, 3, none⟩ = some (.slice B3 b'.length d3) := (blk_cell HK2.out 3).trans rfl
            have hy4 : w7.cell? ⟨g2, 4, none⟩ = some (.int .i64 num') := (blk_cell HK2.out 4).trans rfl
            have hr00 : (w7.alloc (.cells #[.int .i64 0, .slice none 0 0] 45)).cell? ⟨g1, 0, none⟩ = some (.int .i64 k) := (blk_cell (blk_below HK1.out (below_alloc HX.out _)) 0).trans rfl
            have hr01 : (w7.alloc (.cells #[.int .i64 0, .slice none 0 0] 45)).cell? ⟨g1, 1, none⟩ = some (.slice A1 n.length c1) := (blk_cell (blk_below HK1.out (below_alloc HX.out _)) 1).trans rfl
            have hr02 : (w7.alloc (.cells #[.int .i64 0, .slice none 0 0] 45)).cell? ⟨g1, 2, none⟩ = some (.slice A2 a.length c2) := (blk_cell (blk_below HK1.out (below_alloc HX.out _)) 2).trans rfl
            have hr03 : (w7.alloc (.cells #[.int .i64 0, .slice none 0 0] 45)).cell? ⟨g1, 3, none⟩ = some (.slice A3 b.length c3) := (blk_cell (blk_below HK1.out (below_alloc HX.out _)) 3).trans rfl
            have hr04 : (w7.alloc (.cells #[.int .i64 0, .slice none 0 0] 45)).cell? ⟨g1, 4, none⟩ = some (.int .i64 num) := (blk_cell (blk_below HK1.out (below_alloc HX.out _)) 4).trans rfl
            have hr10 : (w7.alloc (.cells #[.int .i64 0, .slice none 0 0] 45)).cell? ⟨g2, 0, none⟩ = some (.int .i64 k') := (blk_cell (blk_below HK2.out (below_alloc HX.out _)) 0).trans rfl
            have hr11 : (w7.alloc (.cells #[.int .i64 0, .slice none 0 0] 45)).cell? ⟨g2, 1, none⟩ = some (.slice B1 m.length d1) := (blk_cell (blk_below HK2.out (below_alloc HX.out _)) 1).trans rfl
            have hr12 : (w7.alloc (.cells #[.int .i64 0, .slice none 0 0] 45)).cell? ⟨g2, 2, none⟩ = some (.slice B2 a'.length d2) := (blk_cell (blk_below HK2.out (below_alloc HX.out _)) 2).trans rfl
            have hr13 : (w7.alloc (.cells #[.int .i64 0, .slice none 0 0] 45)).cell? ⟨g2, 3, none⟩ = some (.slice B3 b'.length d3) := (blk_cell (blk_below HK2.out (below_alloc HX.out _)) 3).trans rfl
            have hr14 : (w7.alloc (.cells #[.int .i64 0, .slice none 0 0] 45)).cell? ⟨g2, 4, none⟩ = some (.int .i64 num') := (blk_cell (blk_below HK2.out (below_alloc HX.out _)) 4).trans rfl
            go_wp2_with fail
            go_region_law (first | (go_simp; go_at_call 37; ((with_reducible refine (ref07_Copy A0 c0 l _ (Kd.C_below HR0.out (below_step HB.out (by repeat (first | exact HX.out | apply below_alloc | apply below_drew | apply pw_below_drewN)))) hc0 HSM.out).mono ?_)); intro e wa hp; obtain ⟨va, he, ho, hb⟩ := hp.out; subst he; obtain ⟨Xa, xa, hv, ha1, ha2⟩ := Kd.S_reads ho; subst hv; replace HX := Aside0.mk (below_step (by repeat (first | exact HX.out | apply below_alloc | apply below_drew | apply pw_below_drewN)) hb); (try replace HCa := Aside0.mk (Kd.C_below HCa.out (below_step (by repeat (first | exact Below.refl _ _ | apply below_alloc | apply below_drew | apply pw_below_drewN)) hb))); (try replace HY1 := Aside0.mk (Kd.C_below HY1.out (below_step (by repeat (first | exact Below.refl _ _ | apply below_alloc | apply below_drew | apply pw_below_drewN)) hb))); (try replace HY2 := Aside0.mk (Kd.C_below HY2.out (below_step (by repeat (first | exact Below.refl _ _ | apply below_alloc | apply below_drew | apply pw_below_drewN)) hb))); (try replace HY3 := Aside0.mk (Kd.C_below HY3.out (below_step (by repeat (first | exact Below.refl _ _ | apply below_alloc | apply below_drew | apply pw_below_drewN)) hb))); (first | replace HZ := Aside0.mk (blk_below HZ.out (below_step (by repeat (first | exact Below.refl _ _ | apply below_alloc | apply below_drew | apply pw_below_drewN)) hb)) | have HZ := Aside0.mk (blk_up (by repeat (first | exact Below.refl _ _ | apply below_drew | apply pw_below_drewN)) hb) | skip); (try have hs0 := z45_0 HZ.out); (try have hs1 := z45_1 HZ.out); (try have hsf0 := blk_frozen HZ.out 0); (try have hsf1 := blk_frozen HZ.out 1); have hxs_wa := HX.out.size; have hq00 : wa.cell? ⟨g1, 0, none⟩ = some (.int .i64 k) := (blk_cell (blk_below HK1.out HX.out) 0).trans rfl; have hq01 : wa.cell? ⟨g1, 1, none⟩ = some (.slice A1 n.length c1) := (blk_cell (blk_below HK1.out HX.out) 1).trans rfl; have hq02 : wa.cell? ⟨g1, 2, none⟩ = some (.slice A2 a.length c2) := (blk_cell (blk_below HK1.out HX.out) 2).trans rfl; have hq03 : wa.cell? ⟨g1, 3, none⟩ = some (.slice A3 b.length c3) := (blk_cell (blk_below HK1.out HX.out) 3).trans rfl; have hq04 : wa.cell? ⟨g1, 4, none⟩ = some (.int .i64 num) := (blk_cell (blk_below HK1.out HX.out) 4).trans rfl; have hq10 : wa.cell? ⟨g2, 0, none⟩ = some (.int .i64 k') := (blk_cell (blk_below HK2.out HX.out) 0).trans rfl; have hq11 : wa.cell? ⟨g2, 1, none⟩ = some (.slice B1 m.length d1) := (blk_cell (blk_below HK2.out HX.out) 1).trans rfl; have hq12 : wa.cell? ⟨g2, 2, none⟩ = some (.slice B2 a'.length d2) := (blk_cell (blk_below HK2.out HX.out) 2).trans rfl; have hq13 : wa.cell? ⟨g2, 3, none⟩ = some (.slice B3 b'.length d3) := (blk_cell (blk_below HK2.out HX.out) 3).trans rfl; have hq14 : wa.cell? ⟨g2, 4, none⟩ = some (.int .i64 num') := (blk_cell (blk_below HK2.out HX.out) 4).trans rfl; have hr00 : (wa.alloc (.cells #[.int .i64 0, .slice none 0 0] 45)).cell? ⟨g1, 0, none⟩ = some (.int .i64 k) := (blk_cell (blk_below HK1.out (below_alloc HX.out _)) 0).trans rfl; have hr01 : (wa.alloc (.cells #[.int .i64 0, .slice none 0 0] 45)).cell? ⟨g1, 1, none⟩ = some (.slice A1 n.length c1) := (blk_cell (blk_below HK1.out (below_alloc HX.out _)) 1).trans rfl; have hr02 : (wa.alloc (.cells #[.int .i64 0, .slice none 0 0] 45)).cell? ⟨g1, 2, none⟩ = some (.slice A2 a.length c2) := (blk_cell (blk_below HK1.out (below_alloc HX.out _)) 2).trans rfl; have hr03 : (wa.alloc (.cells #[.int .i64 0, .slice none 0 0] 45)).cell? ⟨g1, 3, none⟩ = some (.slice A3 b.length c3) := (blk_cell (blk_below HK1.out (below_alloc HX.out _)) 3).trans rfl; have hr04 : (wa.alloc (.cells #[.int .i64 0, .slice none 0 0] 45)).cell? ⟨g1, 4, none⟩ = some (.int .i64 num) := (blk_cell (blk_below HK1.out (below_alloc HX.out _)) 4).trans rfl; have hr10 : (wa.alloc (.cells #[.int .i64 0, .slice none 0 0] 45)).cell? ⟨g2, 0, none⟩ = some (.int .i64 k') := (blk_cell (blk_below HK2.out (below_alloc HX.out _)) 0).trans rfl; have hr11 : (wa.alloc (.cells #[.int .i64 0, .slice none 0 0] 45)).cell? ⟨g2, 1, none⟩ = some (.slice B1 m.length d1) := (blk_cell (blk_below HK2.out (below_alloc HX.out _)) 1).trans rfl; have hr12 : (wa.alloc (.cells #[.int .i64 0, .slice none 0 0] 45)).cell? ⟨g2, 2, none⟩ = some (.slice B2 a'.length d2) := (blk_cell (blk_below HK2.out (below_alloc HX.out _)) 2).trans rfl; have hr13 : (wa.alloc (.cells #[.int .i64 0, .slice none 0 0] 45)).cell? ⟨g2, 3, none⟩ = some (.slice B3 b'.length d3) := (blk_cell (blk_below HK2.out (below_alloc HX.out _)) 3).trans rfl; have hr14 : (wa.alloc (.cells #[.int .i64 0, .slice none 0 0] 45)).cell? ⟨g2, 4, none⟩ = some (.int .i64 num') := (blk_cell (blk_below HK2.out (below_alloc HX.out _)) 4).trans rfl; have HCa := Aside0.mk ha2; clear ho hb ha2) | (go_simp; go_at_call 38; ((with_reducible refine (ref07_CopyOp k' B1 B2 B3 d1 d2 d3 m a' b' num'  _ (Kd.C_below Hbh1.out (below_step HB.out (by repeat (first | exact HX.out | apply below_alloc | apply below_drew | apply pw_below_drewN)))) (Kd.C_below Hbh2.out (below_step HB.out (by repeat (first | exact HX.out | apply below_alloc | apply below_drew | apply pw_below_drewN)))) (Kd.C_below Hbh3.out (below_step HB.out (by repeat (first | exact HX.out | apply below_alloc | apply below_drew | apply pw_below_drewN)))) bs1 bs2 bs3).mono ?_)); intro e wb hp; obtain ⟨x1, x2, x3, he, o1, o2, o3, hb⟩ := hp.out; subst he; obtain ⟨Y1, y1, hv, i1, j1⟩ := o1.reads; subst hv; obtain ⟨Y2, y2, hv, i2, j2⟩ := o2.reads; subst hv; obtain ⟨Y3, y3, hv, i3, j3⟩ := o3.reads; subst hv; replace HX := Aside0.mk (below_step (by repeat (first | exact HX.out | apply below_alloc | apply below_drew | apply pw_below_drewN)) hb); (try replace HCa := Aside0.mk (Kd.C_below HCa.out (below_step (by repeat (first | exact Below.refl _ _ | apply below_alloc | apply below_drew | apply pw_below_drewN)) hb))); (try replace HY1 := Aside0.mk (Kd.C_below HY1.out (below_step (by repeat (first | exact Below.refl _ _ | apply below_alloc | apply below_drew | apply pw_below_drewN)) hb))); (try replace HY2 := Aside0.mk (Kd.C_below HY2.out (below_step (by repeat (first | exact Below.refl _ _ | apply below_alloc | apply below_drew | apply pw_below_drewN)) hb))); (try replace HY3 := Aside0.mk (Kd.C_below HY3.out (below_step (by repeat (first | exact Below.refl _ _ | apply below_alloc | apply below_drew | apply pw_below_drewN)) hb))); (first | replace HZ := Aside0.mk (blk_below HZ.out (below_step (by repeat (first | exact Below.refl _ _ | apply below_alloc | apply below_drew | apply pw_below_drewN)) hb)) | have HZ := Aside0.mk (blk_up (by repeat (first | exact Below.refl _ _ | apply below_drew | apply pw_below_drewN)) hb) | skip); (try have hs0 := z45_0 HZ.out); (try have hs1 := z45_1 HZ.out); (try have hsf0 := blk_frozen HZ.out 0); (try have hsf1 := blk_frozen HZ.out 1); have hxs_wb := HX.out.size; have hq00 : wb.cell? ⟨g1, 0, none⟩ = some (.int .i64 k) := (blk_cell (blk_below HK1.out HX.out) 0).trans rfl; have hq01 : wb.cell? ⟨g1, 1, none⟩ = some (.slice A1 n.length c1) := (blk_cell (blk_below HK1.out HX.out) 1).trans rfl; have hq02 : wb.cell? ⟨g1, 2, none⟩ = some (.slice A2 a.length c2) := (blk_cell (blk_below HK1.out HX.out) 2).trans rfl; have hq03 : wb.cell? ⟨g1, 3, none⟩ = some (.slice A3 b.length c3) := (blk_cell (blk_below HK1.out HX.out) 3).trans rfl; have hq04 : wb.cell? ⟨g1, 4, none⟩ = some (.int .i64 num) := (blk_cell (blk_below HK1.out HX.out) 4).trans rfl; have hq10 : wb.cell? ⟨g2, 0, none⟩ = some (.int .i64 k') := (blk_cell (blk_below HK2.out HX.out) 0).trans rfl; have hq11 : wb.cell? ⟨g2, 1, none⟩ = some (.slice B1 m.length d1) := (blk_cell (blk_below HK2.out HX.out) 1).trans rfl; have hq12 : wb.cell? ⟨g2, 2, none⟩ = some (.slice B2 a'.length d2) := (blk_cell (blk_below HK2.out HX.out) 2).trans rfl; have hq13 : wb.cell? ⟨g2, 3, none⟩ = some (.slice B3 b'.length d3) := (blk_cell (blk_below HK2.out HX.out) 3).trans rfl; have hq14 : wb.cell? ⟨g2, 4, none⟩ = some (.int .i64 num') := (blk_cell (blk_below HK2.out HX.out) 4).trans rfl; have hr00 : (wb.alloc (.cells #[.int .i64 0, .slice none 0 0] 45)).cell? ⟨g1, 0, none⟩ = some (.int .i64 k) := (blk_cell (blk_below HK1.out (below_alloc HX.out _)) 0).trans rfl; have hr01 : (wb.alloc (.cells #[.int .i64 0, .slice none 0 0] 45)).cell? ⟨g1, 1, none⟩ = some (.slice A1 n.length c1) := (blk_cell (blk_below HK1.out (below_alloc HX.out _)) 1).trans rfl; have hr02 : (wb.alloc (.cells #[.int .i64 0, .slice none 0 0] 45)).cell? ⟨g1, 2, none⟩ = some (.slice A2 a.length c2) := (blk_cell (blk_below HK1.out (below_alloc HX.out _)) 2).trans rfl; have hr03 : (wb.alloc (.cells #[.int .i64 0, .slice none 0 0] 45)).cell? ⟨g1, 3, none⟩ = some (.slice A3 b.length c3) := (blk_cell (blk_below HK1.out (below_alloc HX.out _)) 3).trans rfl; have hr04 : (wb.alloc (.cells #[.int .i64 0, .slice none 0 0] 45)).cell? ⟨g1, 4, none⟩ = some (.int .i64 num) := (blk_cell (blk_below HK1.out (below_alloc HX.out _)) 4).trans rfl; have hr10 : (wb.alloc (.cells #[.int .i64 0, .slice none 0 0] 45)).cell? ⟨g2, 0, none⟩ = some (.int .i64 k') := (blk_cell (blk_below HK2.out (below_alloc HX.out _)) 0).trans rfl; have hr11 : (wb.alloc (.cells #[.int .i64 0, .slice none 0 0] 45)).cell? ⟨g2, 1, none⟩ = some (.slice B1 m.length d1) := (blk_cell (blk_below HK2.out (below_alloc HX.out _)) 1).trans rfl; have hr12 : (wb.alloc (.cells #[.int .i64 0, .slice none 0 0] 45)).cell? ⟨g2, 2, none⟩ = some (.slice B2 a'.length d2) := (blk_cell (blk_below HK2.out (below_alloc HX.out _)) 2).trans rfl; have hr13 : (wb.alloc (.cells #[.int .i64 0, .slice none 0 0] 45)).cell? ⟨g2, 3, none⟩ = some (.slice B3 b'.length d3) := (blk_cell (blk_below HK2.out (below_alloc HX.out _)) 3).trans rfl; have hr14 : (wb.alloc (.cells #[.int .i64 0, .slice none 0 0] 45)).cell? ⟨g2, 4, none⟩ = some (.int .i64 num') := (blk_cell (blk_below HK2.out (below_alloc HX.out _)) 4).trans rfl; have HY1 := Aside0.mk j1; have HY2 := Aside0.mk j2; have HY3 := Aside0.mk j3; clear o1 o2 o3 hb j1 j2 j3) | (go_simp; go_at_call 39; ((with_reducible refine (kv_Do Xa Y1 Y2 Y3 xa y1 y2 y3 l k' m a' b' num' _ (Kd.C_below HCa.out (by repeat (first | exact Below.refl _ _ | apply below_alloc | apply below_drew | apply pw_below_drewN))) ha1 (Kd.C_below HY1.out (by repeat (first | exact Below.refl _ _ | apply below_alloc | apply below_drew | apply pw_below_drewN))) (Kd.C_below HY2.out (by repeat (first | exact Below.refl _ _ | apply below_alloc | apply below_drew | apply pw_below_drewN))) (Kd.C_below HY3.out (by repeat (first | exact Below.refl _ _ | apply below_alloc | apply below_drew | apply pw_below_drewN))) HSM2.out bk).mono ?_)); intro e wc hp; rw [HE3.out] at hp; obtain ⟨vr, rv, N, he, hN, hS, hO, hb⟩ := hp.out; subst he; obtain ⟨Xr, xr, hv, hr1, hr2⟩ := Kd.S_reads hS; subst hv; obtain ⟨Vr, vc, hv, hv1, hv2⟩ := hO.reads; subst hv; replace HX := Aside0.mk (below_step (by repeat (first | exact HX.out | apply below_alloc | apply below_drew | apply pw_below_drewN)) hb); (try replace HCa := Aside0.mk (Kd.C_below HCa.out (below_step (by repeat (first | exact Below.refl _ _ | apply below_alloc | apply below_drew | apply pw_below_drewN)) hb))); (try replace HY1 := Aside0.mk (Kd.C_below HY1.out (below_step (by repeat (first | exact Below.refl _ _ | apply below_alloc | apply below_drew | apply pw_below_drewN)) hb))); (try replace HY2 := Aside0.mk (Kd.C_below HY2.out (below_step (by repeat (first | exact Below.refl _ _ | apply below_alloc | apply below_drew | apply pw_below_drewN)) hb))); (try replace HY3 := Aside0.mk (Kd.C_below HY3.out (below_step (by repeat (first | exact Below.refl _ _ | apply below_alloc | apply below_drew | apply pw_below_drewN)) hb))); (first | replace HZ := Aside0.mk (blk_below HZ.out (below_step (by repeat (first | exact Below.refl _ _ | apply below_alloc | apply below_drew | apply pw_below_drewN)) hb)) | have HZ := Aside0.mk (blk_up (by repeat (first | exact Below.refl _ _ | apply below_drew | apply pw_below_drewN)) hb) | skip); (try have hs0 := z45_0 HZ.out); (try have hs1 := z45_1 HZ.out); (try have hsf0 := blk_frozen HZ.out 0); (try have hsf1 := blk_frozen HZ.out 1); have hxs_wc := HX.out.size; have hq00 : wc.cell? ⟨g1, 0, none⟩ = some (.int .i64 k) := (blk_cell (blk_below HK1.out HX.out) 0).trans rfl; have hq01 : wc.cell? ⟨g1, 1, none⟩ = some (.slice A1 n.length c1) := (blk_cell (blk_below HK1.out HX.out) 1).trans rfl; have hq02 : wc.cell? ⟨g1, 2, none⟩ = some (.slice A2 a.length c2) := (blk_cell (blk_below HK1.out HX.out) 2).trans rfl; have hq03 : wc.cell? ⟨g1, 3, none⟩ = some (.slice A3 b.length c3) := (blk_cell (blk_below HK1.out HX.out) 3).trans rfl; have hq04 : wc.cell? ⟨g1, 4, none⟩ = some (.int .i64 num) := (blk_cell (blk_below HK1.out HX.out) 4).trans rfl; have hq10 : wc.cell? ⟨g2, 0, none⟩ = some (.int .i64 k') := (blk_cell (blk_below HK2.out HX.out) 0).trans rfl; have hq11 : wc.cell? ⟨g2, 1, none⟩ = some (.slice B1 m.length d1) := (blk_cell (blk_below HK2.out HX.out) 1).trans rfl; have hq12 : wc.cell? ⟨g2, 2, none⟩ = some (.slice B2 a'.length d2) := (blk_cell (blk_below HK2.out HX.out) 2).trans rfl; have hq13 : wc.cell? ⟨g2, 3, none⟩ = some (.slice B3 b'.length d3) := (blk_cell (blk_below HK2.out HX.out) 3).trans rfl; have hq14 : wc.cell? ⟨g2, 4, none⟩ = some (.int .i64 num') := (blk_cell (blk_below HK2.out HX.out) 4).trans rfl; have HSr := Aside0.mk hS; have HOr := Aside0.mk hO; clear hS hO hb hr2 hv2 hN hp))
            all_goals
              go_wp2_with fail
              go_meet
              first
              | exact ⟨done_fin HZ.out (by first | exact Nat.le_refl _ | assumption) HSr.out HOr.out HX.out⟩
              | exact ⟨done_new HSr.out HOr.out HX.out⟩
          case rest =>
            rename World => w8
            obtain ⟨X3, x3, q3, V3, u3, hv1, hv2, hc3, hC, hK, hV, hb⟩ := hcut.out.out
            subst hv1
            subst hv2
            clear hcut
            replace HB := Aside0.mk (below_step HB.out hb)
            replace HK1 := Aside0.mk (blk_below HK1.out hb)
            replace HK2 := Aside0.mk (blk_below HK2.out hb)
            replace HC1 := Aside0.mk (Kd.C_below HC1.out hb)
            replace HK_q1 := Aside0.mk (blk_below HK_q1.out hb)
            replace HV1 := Aside0.mk (Kd.C_below HV1.out hb)
            replace HC2 := Aside0.mk (Kd.C_below HC2.out hb)
            replace HV2 := Aside0.mk (Kd.C_below HV2.out hb)
            replace HK_q2 := Aside0.mk (blk_below HK_q2.out hb)
            clear hb
            have HC3 := Aside0.mk (hC)
            have HK_q3 := Aside0.mk (hK)
            have HV3 := Aside0.mk (hV)
            clear hC hK hV
            have hz0 : w8.cell? ⟨g1, 0, none⟩ = some (.int .i64 k) := (blk_cell HK1.out 0).trans rfl
            have hz1 : w8.cell? ⟨g1, 1, none⟩ = some (.slice A1 n.length c1) := (blk_cell HK1.out 1).trans rfl
            have hz2 : w8.cell? ⟨g1, 2, none⟩ = some (.slice A2 a.length c2) := (blk_cell HK1.out 2).trans rfl
            have hz3 : w8.cell? ⟨g1, 3, none⟩ = some (.slice A3 b.length c3) := (blk_cell HK1.out 3).trans rfl
            have hz4 : w8.cell? ⟨g1, 4, none⟩ = some (.int .i64 num) := (blk_cell HK1.out 4).trans rfl
            go_wp2_with fail
            refine (ref07_CopyOp k A1 A2 A3 c1 c2 c3 n a b num w8 (Kd.C_below Hah1.out HB.out) (Kd.C_below Hah2.out HB.out) (Kd.C_below Hah3.out HB.out) as1 as2 as3).mono ?_
            intro e w9 hp
            obtain ⟨x1, x2, x3, he, o1, o2, o3, hb⟩ := hp.out
            subst he
            obtain ⟨Y1, y1, hv, i1, j1⟩ := o1.reads
            subst hv
            obtain ⟨Y2, y2, hv, i2, j2⟩ := o2.reads
            subst hv
            obtain ⟨Y3, y3, hv, i3, j3⟩ := o3.reads
            subst hv
            have HY1 := Aside0.mk j1
            have HY2 := Aside0.mk j2
            have HY3 := Aside0.mk j3
            clear o1 o2 o3 j1 j2 j3 hp
            clear hz0 hz1 hz2 hz3 hz4
            replace HB := Aside0.mk (below_step HB.out hb)
            replace HK1 := Aside0.mk (blk_below HK1.out hb)
            replace HK2 := Aside0.mk (blk_below HK2.out hb)
            replace HC1 := Aside0.mk (Kd.C_below HC1.out hb)
            replace HK_q1 := Aside0.mk (blk_below HK_q1.out hb)
            replace HV1 := Aside0.mk (Kd.C_below HV1.out hb)
            replace HC2 := Aside0.mk (Kd.C_below HC2.out hb)
            replace HV2 := Aside0.mk (Kd.C_below HV2.out hb)
            replace HK_q2 := Aside0.mk (blk_below HK_q2.out hb)
            replace HC3 := Aside0.mk (Kd.C_below HC3.out hb)
            replace HK_q3 := Aside0.mk (blk_below HK_q3.out hb)
            replace HV3 := Aside0.mk (Kd.C_below HV3.out hb)
            clear hb
            go_wp2_with fail
            refine (kv_Do X3 Y1 Y2 Y3 x3 y1 y2 y3 r3.1 k n a b num w9 HC3.out hc3 HY1.out HY2.out HY3.out (goodE_small HG3.out) ak).mono ?_
            intro e w10 hp
            rw [HE4.out] at hp
            obtain ⟨vr, rv, N, he, hN, hS, hO, hb⟩ := hp.out
            subst he
            obtain ⟨X4, x4, hv, hc4, hr2⟩ := Kd.S_reads hS
            subst hv
            obtain ⟨V4, u4, hv, hv1, hv2⟩ := hO.reads
            subst hv
            clear hS hO hN hp HY1 HY2 HY3 i1 i2 i3 hv1
            replace HB := Aside0.mk (below_step HB.out hb)
            replace HK1 := Aside0.mk (blk_below HK1.out hb)
            replace HK2 := Aside0.mk (blk_below HK2.out hb)
            replace HC1 := Aside0.mk (Kd.C_below HC1.out hb)
            replace HK_q1 := Aside0.mk (blk_below HK_q1.out hb)
            replace HV1 := Aside0.mk (Kd.C_below HV1.out hb)
            replace HC2 := Aside0.mk (Kd.C_below HC2.out hb)
            replace HV2 := Aside0.mk (Kd.C_below HV2.out hb)
            replace HK_q2 := Aside0.mk (blk_below HK_q2.out hb)
            replace HC3 := Aside0.mk (Kd.C_below HC3.out hb)
            replace HK_q3 := Aside0.mk (blk_below HK_q3.out hb)
            replace HV3 := Aside0.mk (Kd.C_below HV3.out hb)
            clear hb
            have HC4 := Aside0.mk (hr2)
            have HV4 := Aside0.mk (hv2)
            clear hr2 hv2
            obtain ⟨q4, hq4⟩ : ∃ g, g = w10.heap.size := ⟨_, rfl⟩
            obtain ⟨w11, hw11⟩ : ∃ W, W = w10.alloc (.cells #[.int .i64 r4.2.f0, .slice V4 r4.2.f1.length u4] 45) := ⟨_, rfl⟩
            have HX_w11 := Aside0.mk (show Below w10.heap.size w10 w11 by rw [hw11]; exact below_alloc (Below.refl _ _) _)
            replace HB := Aside0.mk (below_step HB.out HX_w11.out)
            replace HK1 := Aside0.mk (blk_below HK1.out HX_w11.out)
            replace HK2 := Aside0.mk (blk_below HK2.out HX_w11.out)
            replace HC1 := Aside0.mk (Kd.C_below HC1.out HX_w11.out)
            replace HK_q1 := Aside0.mk (blk_below HK_q1.out HX_w11.out)
            replace HV1 := Aside0.mk (Kd.C_below HV1.out HX_w11.out)
            replace HC2 := Aside0.mk (Kd.C_below HC2.out HX_w11.out)
            replace HV2 := Aside0.mk (Kd.C_below HV2.out HX_w11.out)
            replace HK_q2 := Aside0.mk (blk_below HK_q2.out HX_w11.out)
            replace HC3 := Aside0.mk (Kd.C_below HC3.out HX_w11.out)
            replace HK_q3 := Aside0.mk (blk_below HK_q3.out HX_w11.out)
            replace HV3 := Aside0.mk (Kd.C_below HV3.out HX_w11.out)
            replace HC4 := Aside0.mk (Kd.C_below HC4.out HX_w11.out)
            replace HV4 := Aside0.mk (Kd.C_below HV4.out HX_w11.out)
            clear HX_w11
            have HK_q4 := Aside0.mk (show w11.heap[q4]? = some (.cells #[.int .i64 r4.2.f0, .slice V4 r4.2.f1.length u4] 45 (0, 0)) by rw [hw11, hq4]; exact blk_new _ _)
            have HG_q4 := Aside0.mk (show w10.heap.size ≤ q4 from Nat.le_of_eq hq4.symm)
            have hl_q40 : (w10.alloc (.cells #[.int .i64 r4.2.f0, .slice V4 r4.2.f1.length u4] 45)).cell? ⟨w10.heap.size, 0, none⟩ = some (.int .i64 r4.2.f0) := by rw [← hw11, ← hq4]; exact (blk_cell HK_q4.out 0).trans rfl
            have hl_q41 : (w10.alloc (.cells #[.int .i64 r4.2.f0, .slice V4 r4.2.f1.length u4] 45)).cell? ⟨w10.heap.size, 1, none⟩ = some (.slice V4 r4.2.f1.length u4) := by rw [← hw11, ← hq4]; exact (blk_cell HK_q4.out 1).trans rfl
            go_upto_region 9 with fail
            try rw [← hq4]
            rw [← hw11]
            clear hl_q40 hl_q41
            clear hq4 hw11
            have hc_q10 : w11.cell? ⟨q1, 0, none⟩ = some (.int .i64 r1.2.f0) := (blk_cell HK_q1.out 0).trans rfl
            have hc_q11 : w11.cell? ⟨q1, 1, none⟩ = some (.slice V1 r1.2.f1.length u1) := (blk_cell HK_q1.out 1).trans rfl
            have hc_q20 : w11.cell? ⟨q2, 0, none⟩ = some (.int .i64 r2.2.f0) := (blk_cell HK_q2.out 0).trans rfl
            have hc_q21 : w11.cell? ⟨q2, 1, none⟩ = some (.slice V2 r2.2.f1.length u2) := (blk_cell HK_q2.out 1).trans rfl
            have hc_q30 : w11.cell? ⟨q3, 0, none⟩ = some (.int .i64 r3.2.f0) := (blk_cell HK_q3.out 0).trans rfl
            have hc_q31 : w11.cell? ⟨q3, 1, none⟩ = some (.slice V3 r3.2.f1.length u3) := (blk_cell HK_q3.out 1).trans rfl
            have hc_q40 : w11.cell? ⟨q4, 0, none⟩ = some (.int .i64 r4.2.f0) := (blk_cell HK_q4.out 0).trans rfl
            have hc_q41 : w11.cell? ⟨q4, 1, none⟩ = some (.slice V4 r4.2.f1.length u4) := (blk_cell HK_q4.out 1).trans rfl
            go_wp2_with fail
            refine (ref07_Same X2 X4 x2 x4 r2.1 r4.1 w11 HC2.out HC4.out).mono ?_
            rintro e w12 ⟨bb, rfl, hb, hi⟩
            obtain rfl : bb = true := hi.2 (by rw [HCM.out.1]; exact sameE_refl _)
            clear hi
            clear hc_q10 hc_q11 hc_q20 hc_q21 hc_q30 hc_q31 hc_q40 hc_q41
            replace HB := Aside0.mk (below_step HB.out hb)
            replace HK1 := Aside0.mk (blk_below HK1.out hb)
            replace HK2 := Aside0.mk (blk_below HK2.out hb)
            replace HC1 := Aside0.mk (Kd.C_below HC1.out hb)
            replace HK_q1 := Aside0.mk (blk_below HK_q1.out hb)
            replace HV1 := Aside0.mk (Kd.C_below HV1.out hb)
            replace HC2 := Aside0.mk (Kd.C_below HC2.out hb)
            replace HV2 := Aside0.mk (Kd.C_below HV2.out hb)
            replace HK_q2 := Aside0.mk (blk_below HK_q2.out hb)
            replace HC3 := Aside0.mk (Kd.C_below HC3.out hb)
            replace HK_q3 := Aside0.mk (blk_below HK_q3.out hb)
            replace HV3 := Aside0.mk (Kd.C_below HV3.out hb)
            replace HC4 := Aside0.mk (Kd.C_below HC4.out hb)
            replace HV4 := Aside0.mk (Kd.C_below HV4.out hb)
            replace HK_q4 := Aside0.mk (blk_below HK_q4.out hb)
            clear hb
            have hc_q10 : w12.cell? ⟨q1, 0, none⟩ = some (.int .i64 r1.2.f0) := (blk_cell HK_q1.out 0).trans rfl
            have hc_q11 : w12.cell? ⟨q1, 1, none⟩ = some (.slice V1 r1.2.f1.length u1) := (blk_cell HK_q1.out 1).trans rfl
            have hc_q20 : w12.cell? ⟨q2, 0, none⟩ = some (.int .i64 r2.2.f0) := (blk_cell HK_q2.out 0).trans rfl
            have hc_q21 : w12.cell? ⟨q2, 1, none⟩ = some (.slice V2 r2.2.f1.length u2) := (blk_cell HK_q2.out 1).trans rfl
            have hc_q30 : w12.cell? ⟨q3, 0, none⟩ = some (.int .i64 r3.2.f0) := (blk_cell HK_q3.out 0).trans rfl
            have hc_q31 : w12.cell? ⟨q3, 1, none⟩ = some (.slice V3 r3.2.f1.length u3) := (blk_cell HK_q3.out 1).trans rfl
            have hc_q40 : w12.cell? ⟨q4, 0, none⟩ = some (.int .i64 r4.2.f0) := (blk_cell HK_q4.out 0).trans rfl
            have hc_q41 : w12.cell? ⟨q4, 1, none⟩ = some (.slice V4 r4.2.f1.length u4) := (blk_cell HK_q4.out 1).trans rfl
            go_wp2_with fail
            refine (ref07_SameResult r1.2.f0 r4.2.f0 V1 V4 u1 u4 r1.2.f1 r4.2.f1 w12 HV1.out HV4.out).mono ?_
            rintro e w13 ⟨he, hb⟩
            rw [show sameRB r1.2.f0 r4.2.f0 r1.2.f1 r4.2.f1 = true by rw [HCM.out.2.1]; exact sameRB_refl _ _] at he
            subst he
            clear hc_q10 hc_q11 hc_q20 hc_q21 hc_q30 hc_q31 hc_q40 hc_q41
            replace HB := Aside0.mk (below_step HB.out hb)
            replace HK1 := Aside0.mk (blk_below HK1.out hb)
            replace HK2 := Aside0.mk (blk_below HK2.out hb)
            replace HC1 := Aside0.mk (Kd.C_below HC1.out hb)
            replace HK_q1 := Aside0.mk (blk_below HK_q1.out hb)
            replace HV1 := Aside0.mk (Kd.C_below HV1.out hb)
            replace HC2 := Aside0.mk (Kd.C_below HC2.out hb)
            replace HV2 := Aside0.mk (Kd.C_below HV2.out hb)
            replace HK_q2 := Aside0.mk (blk_below HK_q2.out hb)
            replace HC3 := Aside0.mk (Kd.C_below HC3.out hb)
            replace HK_q3 := Aside0.mk (blk_below HK_q3.out hb)
            replace HV3 := Aside0.mk (Kd.C_below HV3.out hb)
            replace HC4 := Aside0.mk (Kd.C_below HC4.out hb)
            replace HV4 := Aside0.mk (Kd.C_below HV4.out hb)
            replace HK_q4 := Aside0.mk (blk_below HK_q4.out hb)
            clear hb
            have hc_q10 : w13.cell? ⟨q1, 0, none⟩ = some (.int .i64 r1.2.f0) := (blk_cell HK_q1.out 0).trans rfl
            have hc_q11 : w13.cell? ⟨q1, 1, none⟩ = some (.slice V1 r1.2.f1.length u1) := (blk_cell HK_q1.out 1).trans rfl
            have hc_q20 : w13.cell? ⟨q2, 0, none⟩ = some (.int .i64 r2.2.f0) := (blk_cell HK_q2.out 0).trans rfl
            have hc_q21 : w13.cell? ⟨q2, 1, none⟩ = some (.slice V2 r2.2.f1.length u2) := (blk_cell HK_q2.out 1).trans rfl
            have hc_q30 : w13.cell? ⟨q3, 0, none⟩ = some (.int .i64 r3.2.f0) := (blk_cell HK_q3.out 0).trans rfl
            have hc_q31 : w13.cell? ⟨q3, 1, none⟩ = some (.slice V3 r3.2.f1.length u3) := (blk_cell HK_q3.out 1).trans rfl
            have hc_q40 : w13.cell? ⟨q4, 0, none⟩ = some (.int .i64 r4.2.f0) := (blk_cell HK_q4.out 0).trans rfl
            have hc_q41 : w13.cell? ⟨q4, 1, none⟩ = some (.slice V4 r4.2.f1.length u4) := (blk_cell HK_q4.out 1).trans rfl
            go_wp2_with fail
            refine (ref07_SameResult r2.2.f0 r3.2.f0 V2 V3 u2 u3 r2.2.f1 r3.2.f1 w13 HV2.out HV3.out).mono ?_
            rintro e w14 ⟨he, hb⟩
            rw [show sameRB r2.2.f0 r3.2.f0 r2.2.f1 r3.2.f1 = true by rw [HCM.out.2.2]; exact sameRB_refl _ _] at he
            subst he
            clear hc_q10 hc_q11 hc_q20 hc_q21 hc_q30 hc_q31 hc_q40 hc_q41
            replace HB := Aside0.mk (below_step HB.out hb)
            replace HK1 := Aside0.mk (blk_below HK1.out hb)
            replace HK2 := Aside0.mk (blk_below HK2.out hb)
            replace HC1 := Aside0.mk (Kd.C_below HC1.out hb)
            replace HK_q1 := Aside0.mk (blk_below HK_q1.out hb)
            replace HV1 := Aside0.mk (Kd.C_below HV1.out hb)
            replace HC2 := Aside0.mk (Kd.C_below HC2.out hb)
            replace HV2 := Aside0.mk (Kd.C_below HV2.out hb)
            replace HK_q2 := Aside0.mk (blk_below HK_q2.out hb)
            replace HC3 := Aside0.mk (Kd.C_below HC3.out hb)
            replace HK_q3 := Aside0.mk (blk_below HK_q3.out hb)
            replace HV3 := Aside0.mk (Kd.C_below HV3.out hb)
            replace HC4 := Aside0.mk (Kd.C_below HC4.out hb)
            replace HV4 := Aside0.mk (Kd.C_below HV4.out hb)
            replace HK_q4 := Aside0.mk (blk_below HK_q4.out hb)
            clear hb
            go_wp2_with fail
            go_ret
            exact ⟨rfl, HB.out⟩

end Go.Proofs.Ytophfoenaekfjaa

