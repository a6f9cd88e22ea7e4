/- The law SnapUnlike. -/
import Derived.Test.YtophfoenaekfjaaSnapEncodesm8
import Derived.Test.YtophfoenaekfjaaSnapDecodesm1
import Derived.Outline
import Derived.Deep.RegionLaw
namespace Go.Proofs.Ytophfoenaekfjaa
open Go.RowKit Go.Proofs.YtophfoenaekfjaaW.PrintWords Go.Proofs.YtophfoenaekfjaaW.PrintLast Go.Proofs.YtophfoenaekfjaaW.PrintMore Go.Proofs.Ytophfoenaekfjaa.PSnapEncodes
set_option linter.unusedVariables false
set_option linter.unusedSimpArgs false
theorem same_eqL {a b : List Int} (ha : wfB a) (hb : wfB b) (h : sameB a b = true) : a = b := (sameB_eq ha hb).1 h
theorem list_of_rd {α : Type} (z : α) {xs ys : List α} (hl : xs.length = ys.length) (h : ∀ x : Int, 0 ≤ x → x < xs.length → xs.getD x.toNat z = ys.getD x.toNat z) : xs = ys := by
  refine List.ext_getElem hl (fun i h1 h2 => ?_)
  have := h (i : Int) (by omega) (by omega)
  rw [Int.toNat_natCast, List.getD_eq_getElem?_getD, List.getD_eq_getElem?_getD, List.getElem?_eq_getElem h1, List.getElem?_eq_getElem h2] at this
  exact this
theorem rd_mem_i {α : Type} (z : α) {xs : List α} {x : Int} (h0 : 0 ≤ x) (h1 : x < xs.length) : xs.getD x.toNat z ∈ xs := getD_mem' z (by omega)
theorem sameA_eq {a0 b0 : Int} {l1 k1 : List S72} {l2 k2 : List S87} {l3 k3 : List S97} (h : sameA a0 b0 l1 k1 l2 k2 l3 k3) (u1 : wfE l1) (u2 : wfL l2) (u3 : wfS l3) (v1 : wfE k1) (v2 : wfL k2) (v3 : wfS k3) : a0 = b0 ∧ l1 = k1 ∧ l2 = k2 ∧ l3 = k3 := by
  refine ⟨h.slot, list_of_rd z72 h.ent.1 (fun x h0 h1 => ?_), list_of_rd z87 h.lea.1 (fun x h0 h1 => ?_), list_of_rd z97 h.ses.1 (fun x h0 h1 => ?_)⟩
  · have hs := h.ent.2 x h0 h1
    have hu := u1 _ (rd_mem_i z72 h0 h1)
    have hv := v1 _ (rd_mem_i z72 h0 (by rw [← h.ent.1]; exact h1))
    have e0 := same_eqL hu.1 hv.1 hs.1
    have e1 := same_eqL hu.2 hv.2 hs.2
    exact (show ∀ p q : S72, p.f0 = q.f0 → p.f1 = q.f1 → p = q from fun ⟨_, _⟩ ⟨_, _⟩ e e' => by cases e; cases e'; rfl) _ _ e0 e1
  · have hs := h.lea.2 x h0 h1
    have hu := u2 _ (rd_mem_i z87 h0 h1)
    have hv := v2 _ (rd_mem_i z87 h0 (by rw [← h.lea.1]; exact h1))
    have e0 := same_eqL hu hv hs.1
    exact (show ∀ p q : S87, p.f0 = q.f0 → p.f1 = q.f1 → p.f2 = q.f2 → p = q from fun ⟨_, _, _⟩ ⟨_, _, _⟩ e e' e2 => by cases e; cases e'; cases e2; rfl) _ _ e0 hs.2 hs.3
  · have hs := h.ses.2 x h0 h1
    have hu := u3 _ (rd_mem_i z97 h0 h1)
    have hv := v3 _ (rd_mem_i z97 h0 (by rw [← h.ses.1]; exact h1))
    have e0 := same_eqL hu hv hs.4
    exact (show ∀ p q : S97, p.f0 = q.f0 → p.f1 = q.f1 → p.f2.f0 = q.f2.f0 → p.f2.f1 = q.f2.f1 → p = q from fun ⟨_, _, ⟨_, _⟩⟩ ⟨_, _, ⟨_, _⟩⟩ e e' e2 e3 => by cases e; cases e'; cases e2; cases e3; rfl) _ _ hs.1 hs.2 hs.3 e0
set_option maxHeartbeats 4000000 in
set_option maxRecDepth 100000 in
theorem law_SnapUnlike_11 (a0 : Int) (A1 A2 A3 : Option Addr) (c1 c2 c3 : Nat) (l1 : List S72) (l2 : List S87) (l3 : List S97) (b0 : Int) (B1 B2 B3 : Option Addr) (d1 d2 d3 : Nat) (k1 : List S72) (k2 : List S87) (k3 : List S97) (w : World) (ah1 : Kd.C k72 w A1 l1.length l1) (am1 : l1.length ≤ c1) (ah2 : Kd.C k87 w A2 l2.length l2) (am2 : l2.length ≤ c2) (ah3 : Kd.C k97 w A3 l3.length l3) (am3 : l3.length ≤ c3) (as1 : smallE l1) (as2 : smallL l2) (as3 : smallS l3) (aw1 : wfE l1) (aw2 : wfL l2) (aw3 : wfS l3) (bh1 : Kd.C k72 w B1 k1.length k1) (bm1 : k1.length ≤ d1) (bh2 : Kd.C k87 w B2 k2.length k2) (bm2 : k2.length ≤ d2) (bh3 : Kd.C k97 w B3 k3.length k3) (bm3 : k3.length ≤ d3) (bs1 : smallE k1) (bs2 : smallL k2) (bs3 : smallS k3) (bw1 : wfE k1) (bw2 : wfL k2) (bw3 : wfS k3) (HGa : Aside0 (goodA a0 l1 l2 l3)) (HGb : Aside0 (goodA b0 k1 k2 k3)) :
    Calls Try.prog 6 #[.agg #[.int .i64 a0, .slice A1 l1.length c1, .slice A2 l2.length c2, .slice A3 l3.length c3], .agg #[.int .i64 b0, .slice B1 k1.length d1, .slice B2 k2.length d2, .slice B3 k3.length d3]] w fun e w' => e = .returned (.bool true) ∧ Below w.heap.size w w' := by
  have Hah1 := Aside0.mk ah1
  have Hah2 := Aside0.mk ah2
  have Hah3 := Aside0.mk ah3
  have Hbh1 := Aside0.mk bh1
  have Hbh2 := Aside0.mk bh2
  have Hbh3 := Aside0.mk bh3
  have Has1 := Aside0.mk as1
  have Has2 := Aside0.mk as2
  have Has3 := Aside0.mk as3
  have Hbs1 := Aside0.mk bs1
  have Hbs2 := Aside0.mk bs2
  have Hbs3 := Aside0.mk bs3
  have Haw1 := Aside0.mk aw1
  have Haw2 := Aside0.mk aw2
  have Haw3 := Aside0.mk aw3
  have Hbw1 := Aside0.mk bw1
  have Hbw2 := Aside0.mk bw2
  have Hbw3 := Aside0.mk bw3
  clear ah1 ah2 ah3 bh1 bh2 bh3 as1 as2 as3 bs1 bs2 bs3 aw1 aw2 aw3 bw1 bw2 bw3
  obtain ⟨g1, hg1⟩ : ∃ g, g = w.heap.size := ⟨_, rfl⟩
  obtain ⟨g2, hg2⟩ : ∃ g, g = w.heap.size + 1 := ⟨_, rfl⟩
  obtain ⟨W0, hW0⟩ : ∃ W, W = (w.alloc (.cells #[.int .i64 a0, .slice A1 l1.length c1, .slice A2 l2.length c2, .slice A3 l3.length c3] 26)).alloc (.cells #[.int .i64 b0, .slice B1 k1.length d1, .slice B2 k2.length d2, .slice B3 k3.length d3] 26) := ⟨_, rfl⟩
  have HB := Aside0.mk (show Below w.heap.size w W0 from by rw [hW0]; exact below_alloc (below_alloc (Below.refl _ _) _) _)
  have HK1 := Aside0.mk (show W0.heap[g1]? = some (.cells #[.int .i64 a0, .slice A1 l1.length c1, .slice A2 l2.length c2, .slice A3 l3.length c3] 26 (0, 0)) from by rw [hW0, hg1]; exact blk_below (blk_new _ _) (below_alloc (Below.refl _ _) _))
  have HK2 := Aside0.mk (show W0.heap[g2]? = some (.cells #[.int .i64 b0, .slice B1 k1.length d1, .slice B2 k2.length d2, .slice B3 k3.length d3] 26 (0, 0)) by rw [hW0, hg2, show w.heap.size + 1 = (w.alloc (.cells #[.int .i64 a0, .slice A1 l1.length c1, .slice A2 l2.length c2, .slice A3 l3.length c3] 26)).heap.size by simp]; exact blk_new _ _)
  go_enter Try.func6, Try.ntmps6
  go_wp2_with fail
  try rw [← hg2]
  try rw [← hg1]
  rw [← hW0]
  clear hg1 hg2 hW0
  refine (snapAlive W0).mono ?_
  rintro e w1 ⟨rfl, hb⟩
  replace HB := Aside0.mk (below_step HB.out hb)
  replace HK1 := Aside0.mk (blk_below HK1.out hb)
  replace HK2 := Aside0.mk (blk_below HK2.out hb)
  clear hb
  have hz0 : w1.cell? ⟨g1, 0, none⟩ = some (.int .i64 a0) := (blk_cell HK1.out 0).trans rfl
  have hz1 : w1.cell? ⟨g1, 1, none⟩ = some (.slice A1 l1.length c1) := (blk_cell HK1.out 1).trans rfl
  have hz2 : w1.cell? ⟨g1, 2, none⟩ = some (.slice A2 l2.length c2) := (blk_cell HK1.out 2).trans rfl
  have hz3 : w1.cell? ⟨g1, 3, none⟩ = some (.slice A3 l3.length c3) := (blk_cell HK1.out 3).trans rfl
  go_wp2_with fail
  refine (ref09_Copy a0 A1 A2 A3 c1 c2 c3 l1 l2 l3 w1 (Kd.C_below Hah1.out HB.out) am1 (Kd.C_below Hah2.out HB.out) am2 (Kd.C_below Hah3.out HB.out) am3 Has1.out Has2.out Has3.out).mono ?_
  rintro e w2 hp
  clear hz0 hz1 hz2 hz3
  obtain ⟨v1, v2, v3, rfl, r1, r2, r3, hb⟩ := hp.out
  obtain ⟨Xa1, xa1, rfl, n1, y1⟩ := Kd.S_reads r1
  obtain ⟨Xa2, xa2, rfl, n2, y2⟩ := Kd.S_reads r2
  obtain ⟨Xa3, xa3, rfl, n3, y3⟩ := Kd.S_reads r3
  clear r1 r2 r3
  replace HB := Aside0.mk (below_step HB.out hb)
  replace HK1 := Aside0.mk (blk_below HK1.out hb)
  replace HK2 := Aside0.mk (blk_below HK2.out hb)
  clear hb
  have HY1 := Aside0.mk y1
  have HY2 := Aside0.mk y2
  have HY3 := Aside0.mk y3
  clear y1 y2 y3
  go_wp2_with fail
  refine (snap_Encode a0 Xa1 Xa2 Xa3 xa1 xa2 xa3 l1 l2 l3 w2 HY1.out n1 HY2.out n2 HY3.out n3).mono ?_
  rintro e w3 hp
  obtain ⟨v, ba, er, rfl, ho, hb, hyes, hno⟩ := hp.out
  clear HY1 HY2 HY3 n1 n2 n3
  obtain ⟨hb1, her⟩ := hyes HGa.out
  subst her
  have HEa := Aside0.mk hb1
  clear hb1 hyes hno
  obtain ⟨Ea, fa, hv, hf, hr⟩ := ho.reads
  subst hv
  clear ho hf
  replace HB := Aside0.mk (below_step HB.out hb)
  replace HK1 := Aside0.mk (blk_below HK1.out hb)
  replace HK2 := Aside0.mk (blk_below HK2.out hb)
  clear hb
  have HRa := Aside0.mk (hr)
  clear hr
  have hz0 : w3.cell? ⟨g2, 0, none⟩ = some (.int .i64 b0) := (blk_cell HK2.out 0).trans rfl
  have hz1 : w3.cell? ⟨g2, 1, none⟩ = some (.slice B1 k1.length d1) := (blk_cell HK2.out 1).trans rfl
  have hz2 : w3.cell? ⟨g2, 2, none⟩ = some (.slice B2 k2.length d2) := (blk_cell HK2.out 2).trans rfl
  have hz3 : w3.cell? ⟨g2, 3, none⟩ = some (.slice B3 k3.length d3) := (blk_cell HK2.out 3).trans rfl
  go_wp2_with fail
  refine (ref09_Copy b0 B1 B2 B3 d1 d2 d3 k1 k2 k3 w3 (Kd.C_below Hbh1.out HB.out) bm1 (Kd.C_below Hbh2.out HB.out) bm2 (Kd.C_below Hbh3.out HB.out) bm3 Hbs1.out Hbs2.out Hbs3.out).mono ?_
  rintro e w4 hp
  clear hz0 hz1 hz2 hz3
  obtain ⟨v1, v2, v3, rfl, r1, r2, r3, hb⟩ := hp.out
  obtain ⟨Xb1, xb1, rfl, n1, y1⟩ := Kd.S_reads r1
  obtain ⟨Xb2, xb2, rfl, n2, y2⟩ := Kd.S_reads r2
  obtain ⟨Xb3, xb3, rfl, n3, y3⟩ := Kd.S_reads r3
  clear r1 r2 r3
  replace HB := Aside0.mk (below_step HB.out hb)
  replace HK1 := Aside0.mk (blk_below HK1.out hb)
  replace HK2 := Aside0.mk (blk_below HK2.out hb)
  replace HRa := Aside0.mk (Kd.C_below HRa.out hb)
  clear hb
  have HY1 := Aside0.mk y1
  have HY2 := Aside0.mk y2
  have HY3 := Aside0.mk y3
  clear y1 y2 y3
  go_wp2_with fail
  refine (snap_Encode b0 Xb1 Xb2 Xb3 xb1 xb2 xb3 k1 k2 k3 w4 HY1.out n1 HY2.out n2 HY3.out n3).mono ?_
  rintro e w5 hp
  obtain ⟨v, bb, er, rfl, ho, hb, hyes, hno⟩ := hp.out
  clear HY1 HY2 HY3 n1 n2 n3
  obtain ⟨hb1, her⟩ := hyes HGb.out
  subst her
  have HEb := Aside0.mk hb1
  clear hb1 hyes hno
  obtain ⟨Eb, fb, hv, hf, hr⟩ := ho.reads
  subst hv
  clear ho hf
  replace HB := Aside0.mk (below_step HB.out hb)
  replace HK1 := Aside0.mk (blk_below HK1.out hb)
  replace HK2 := Aside0.mk (blk_below HK2.out hb)
  replace HRa := Aside0.mk (Kd.C_below HRa.out hb)
  clear hb
  have HRb := Aside0.mk (hr)
  clear hr
  have hz0 : w5.cell? ⟨g1, 0, none⟩ = some (.int .i64 a0) := (blk_cell HK1.out 0).trans rfl
  have hz1 : w5.cell? ⟨g1, 1, none⟩ = some (.slice A1 l1.length c1) := (blk_cell HK1.out 1).trans rfl
  have hz2 : w5.cell? ⟨g1, 2, none⟩ = some (.slice A2 l2.length c2) := (blk_cell HK1.out 2).trans rfl
  have hz3 : w5.cell? ⟨g1, 3, none⟩ = some (.slice A3 l3.length c3) := (blk_cell HK1.out 3).trans rfl
  have hy0 : w5.cell? ⟨g2, 0, none⟩ = some (.int .i64 b0) := (blk_cell HK2.out 0).trans rfl
  have hy1 : w5.cell? ⟨g2, 1, none⟩ = some (.slice B1 k1.length d1) := (blk_cell HK2.out 1).trans rfl
  have hy2 : w5.cell? ⟨g2, 2, none⟩ = some (.slice B2 k2.length d2) := (blk_cell HK2.out 2).trans rfl
  have hy3 : w5.cell? ⟨g2, 3, none⟩ = some (.slice B3 k3.length d3) := (blk_cell HK2.out 3).trans rfl
  obtain ⟨s, hs⟩ : ∃ s, sameB ba bb = s := ⟨_, rfl⟩
  have HS := Aside0.mk hs
  have HIF : Aside0 (sameA a0 b0 l1 k1 l2 k2 l3 k3 ↔ s = true) := ⟨by
    rw [← hs, HEa.out, HEb.out, sameB_eq (encA_wf _ Haw1.out Haw2.out Haw3.out) (encA_wf _ Hbw1.out Hbw2.out Hbw3.out)]
    constructor
    · intro h
      obtain ⟨e0, e1, e2, e3⟩ := sameA_eq h Haw1.out Haw2.out Haw3.out Hbw1.out Hbw2.out Hbw3.out
      rw [e0, e1, e2, e3]
    · intro h
      obtain ⟨e0, e1, e2, e3⟩ := encA_inj HGa.out HGb.out h
      subst e0 e1 e2 e3
      exact sameA_refl _ _ _ _⟩
  clear hs
  have HX := Aside0.mk (Below.refl w5.heap.size w5)
  go_wp2_with fail
  go_region_law (first | (go_simp; go_at_call 22; ((with_reducible refine (ref01_Same Ea Eb fa fb ba bb _ (Kd.C_below HRa.out (by repeat (first | exact HX.out | apply below_drew | apply pw_below_drewN))) (Kd.C_below HRb.out (by repeat (first | exact HX.out | apply below_drew | apply pw_below_drewN)))).mono ?_)); rintro e w6 ⟨he, hd⟩; rw [HS.out] at he; subst he; have hb := hd.below; replace HX := Aside0.mk (below_step (by repeat (first | exact HX.out | apply below_drew | apply pw_below_drewN)) hb); clear hb hd; have hu0 : w6.cell? ⟨g1, 0, none⟩ = some (.int .i64 a0) := (blk_cell (blk_below HK1.out HX.out) 0).trans rfl; have hu1 : w6.cell? ⟨g1, 1, none⟩ = some (.slice A1 l1.length c1) := (blk_cell (blk_below HK1.out HX.out) 1).trans rfl; have hu2 : w6.cell? ⟨g1, 2, none⟩ = some (.slice A2 l2.length c2) := (blk_cell (blk_below HK1.out HX.out) 2).trans rfl; have hu3 : w6.cell? ⟨g1, 3, none⟩ = some (.slice A3 l3.length c3) := (blk_cell (blk_below HK1.out HX.out) 3).trans rfl; have hv0 : w6.cell? ⟨g2, 0, none⟩ = some (.int .i64 b0) := (blk_cell (blk_below HK2.out HX.out) 0).trans rfl; have hv1 : w6.cell? ⟨g2, 1, none⟩ = some (.slice B1 k1.length d1) := (blk_cell (blk_below HK2.out HX.out) 1).trans rfl; have hv2 : w6.cell? ⟨g2, 2, none⟩ = some (.slice B2 k2.length d2) := (blk_cell (blk_below HK2.out HX.out) 2).trans rfl; have hv3 : w6.cell? ⟨g2, 3, none⟩ = some (.slice B3 k3.length d3) := (blk_cell (blk_below HK2.out HX.out) 3).trans rfl) | (go_simp; go_at_call 23; ((with_reducible refine (ref09_Same a0 b0 A1 A2 A3 B1 B2 B3 c1 c2 c3 d1 d2 d3 l1 k1 l2 k2 l3 k3 _ (Kd.C_below Hah1.out (below_step HB.out (by repeat (first | exact HX.out | apply below_drew | apply pw_below_drewN)))) (Kd.C_below Hah2.out (below_step HB.out (by repeat (first | exact HX.out | apply below_drew | apply pw_below_drewN)))) (Kd.C_below Hah3.out (below_step HB.out (by repeat (first | exact HX.out | apply below_drew | apply pw_below_drewN)))) (Kd.C_below Hbh1.out (below_step HB.out (by repeat (first | exact HX.out | apply below_drew | apply pw_below_drewN)))) (Kd.C_below Hbh2.out (below_step HB.out (by repeat (first | exact HX.out | apply below_drew | apply pw_below_drewN)))) (Kd.C_below Hbh3.out (below_step HB.out (by repeat (first | exact HX.out | apply below_drew | apply pw_below_drewN))))).mono ?_)); rintro e w7 hp; obtain ⟨rb, he, hb, hiff⟩ := hp; subst he; obtain rfl : s = rb := Bool.eq_iff_iff.2 (HIF.out.symm.trans hiff.symm); replace HX := Aside0.mk (below_step (by repeat (first | exact HX.out | apply below_drew | apply pw_below_drewN)) hb); clear hb hiff))
  all_goals
    go_wp2
    go_ret
    exact ⟨by first | rfl | simp, below_step HB.out HX.out⟩
set_option maxHeartbeats 4000000 in
set_option maxRecDepth 100000 in
theorem law_SnapUnlike_10 (a0 : Int) (A1 A2 A3 : Option Addr) (c1 c2 c3 : Nat) (l1 : List S72) (l2 : List S87) (l3 : List S97) (b0 : Int) (B1 B2 B3 : Option Addr) (d1 d2 d3 : Nat) (k1 : List S72) (k2 : List S87) (k3 : List S97) (w : World) (ah1 : Kd.C k72 w A1 l1.length l1) (am1 : l1.length ≤ c1) (ah2 : Kd.C k87 w A2 l2.length l2) (am2 : l2.length ≤ c2) (ah3 : Kd.C k97 w A3 l3.length l3) (am3 : l3.length ≤ c3) (as1 : smallE l1) (as2 : smallL l2) (as3 : smallS l3) (aw1 : wfE l1) (aw2 : wfL l2) (aw3 : wfS l3) (bh1 : Kd.C k72 w B1 k1.length k1) (bm1 : k1.length ≤ d1) (bh2 : Kd.C k87 w B2 k2.length k2) (bm2 : k2.length ≤ d2) (bh3 : Kd.C k97 w B3 k3.length k3) (bm3 : k3.length ≤ d3) (bs1 : smallE k1) (bs2 : smallL k2) (bs3 : smallS k3) (bw1 : wfE k1) (bw2 : wfL k2) (bw3 : wfS k3) (HGa : Aside0 (goodA a0 l1 l2 l3)) (HGb : Aside0 (¬ goodA b0 k1 k2 k3)) :
    Calls Try.prog 6 #[.agg #[.int .i64 a0, .slice A1 l1.length c1, .slice A2 l2.length c2, .slice A3 l3.length c3], .agg #[.int .i64 b0, .slice B1 k1.length d1, .slice B2 k2.length d2, .slice B3 k3.length d3]] w fun e w' => e = .returned (.bool true) ∧ Below w.heap.size w w' := by
  have Hah1 := Aside0.mk ah1
  have Hah2 := Aside0.mk ah2
  have Hah3 := Aside0.mk ah3
  have Hbh1 := Aside0.mk bh1
  have Hbh2 := Aside0.mk bh2
  have Hbh3 := Aside0.mk bh3
  have Has1 := Aside0.mk as1
  have Has2 := Aside0.mk as2
  have Has3 := Aside0.mk as3
  have Hbs1 := Aside0.mk bs1
  have Hbs2 := Aside0.mk bs2
  have Hbs3 := Aside0.mk bs3
  have Haw1 := Aside0.mk aw1
  have Haw2 := Aside0.mk aw2
  have Haw3 := Aside0.mk aw3
  have Hbw1 := Aside0.mk bw1
  have Hbw2 := Aside0.mk bw2
  have Hbw3 := Aside0.mk bw3
  clear ah1 ah2 ah3 bh1 bh2 bh3 as1 as2 as3 bs1 bs2 bs3 aw1 aw2 aw3 bw1 bw2 bw3
  obtain ⟨g1, hg1⟩ : ∃ g, g = w.heap.size := ⟨_, rfl⟩
  obtain ⟨g2, hg2⟩ : ∃ g, g = w.heap.size + 1 := ⟨_, rfl⟩
  obtain ⟨W0, hW0⟩ : ∃ W, W = (w.alloc (.cells #[.int .i64 a0, .slice A1 l1.length c1, .slice A2 l2.length c2, .slice A3 l3.length c3] 26)).alloc (.cells #[.int .i64 b0, .slice B1 k1.length d1, .slice B2 k2.length d2, .slice B3 k3.length d3] 26) := ⟨_, rfl⟩
  have HB := Aside0.mk (show Below w.heap.size w W0 from by rw [hW0]; exact below_alloc (below_alloc (Below.refl _ _) _) _)
  have HK1 := Aside0.mk (show W0.heap[g1]? = some (.cells #[.int .i64 a0, .slice A1 l1.length c1, .slice A2 l2.length c2, .slice A3 l3.length c3] 26 (0, 0)) from by rw [hW0, hg1]; exact blk_below (blk_new _ _) (below_alloc (Below.refl _ _) _))
  have HK2 := Aside0.mk (show W0.heap[g2]? = some (.cells #[.int .i64 b0, .slice B1 k1.length d1, .slice B2 k2.length d2, .slice B3 k3.length d3] 26 (0, 0)) by rw [hW0, hg2, show w.heap.size + 1 = (w.alloc (.cells #[.int .i64 a0, .slice A1 l1.length c1, .slice A2 l2.length c2, .slice A3 l3.length c3] 26)).heap.size by simp]; exact blk_new _ _)
  go_enter Try.func6, Try.ntmps6
  go_wp2_with fail
  try rw [← hg2]
  try rw [← hg1]
  rw [← hW0]
  clear hg1 hg2 hW0
  refine (snapAlive W0).mono ?_
  rintro e w1 ⟨rfl, hb⟩
  replace HB := Aside0.mk (below_step HB.out hb)
  replace HK1 := Aside0.mk (blk_below HK1.out hb)
  replace HK2 := Aside0.mk (blk_below HK2.out hb)
  clear hb
  have hz0 : w1.cell? ⟨g1, 0, none⟩ = some (.int .i64 a0) := (blk_cell HK1.out 0).trans rfl
  have hz1 : w1.cell? ⟨g1, 1, none⟩ = some (.slice A1 l1.length c1) := (blk_cell HK1.out 1).trans rfl
  have hz2 : w1.cell? ⟨g1, 2, none⟩ = some (.slice A2 l2.length c2) := (blk_cell HK1.out 2).trans rfl
  have hz3 : w1.cell? ⟨g1, 3, none⟩ = some (.slice A3 l3.length c3) := (blk_cell HK1.out 3).trans rfl
  go_wp2_with fail
  refine (ref09_Copy a0 A1 A2 A3 c1 c2 c3 l1 l2 l3 w1 (Kd.C_below Hah1.out HB.out) am1 (Kd.C_below Hah2.out HB.out) am2 (Kd.C_below Hah3.out HB.out) am3 Has1.out Has2.out Has3.out).mono ?_
  rintro e w2 hp
  clear hz0 hz1 hz2 hz3
  obtain ⟨v1, v2, v3, rfl, r1, r2, r3, hb⟩ := hp.out
  obtain ⟨Xa1, xa1, rfl, n1, y1⟩ := Kd.S_reads r1
  obtain ⟨Xa2, xa2, rfl, n2, y2⟩ := Kd.S_reads r2
  obtain ⟨Xa3, xa3, rfl, n3, y3⟩ := Kd.S_reads r3
  clear r1 r2 r3
  replace HB := Aside0.mk (below_step HB.out hb)
  replace HK1 := Aside0.mk (blk_below HK1.out hb)
  replace HK2 := Aside0.mk (blk_below HK2.out hb)
  clear hb
  have HY1 := Aside0.mk y1
  have HY2 := Aside0.mk y2
  have HY3 := Aside0.mk y3
  clear y1 y2 y3
  go_wp2_with fail
  refine (snap_Encode a0 Xa1 Xa2 Xa3 xa1 xa2 xa3 l1 l2 l3 w2 HY1.out n1 HY2.out n2 HY3.out n3).mono ?_
  rintro e w3 hp
  obtain ⟨v, ba, er, rfl, ho, hb, hyes, hno⟩ := hp.out
  clear HY1 HY2 HY3 n1 n2 n3
  obtain ⟨hb1, her⟩ := hyes HGa.out
  subst her
  clear hb1 hyes hno
  obtain ⟨Ea, fa, hv, hf, hr⟩ := ho.reads
  subst hv
  clear ho hf
  replace HB := Aside0.mk (below_step HB.out hb)
  replace HK1 := Aside0.mk (blk_below HK1.out hb)
  replace HK2 := Aside0.mk (blk_below HK2.out hb)
  clear hb
  have HRa := Aside0.mk (hr)
  clear hr
  have hz0 : w3.cell? ⟨g2, 0, none⟩ = some (.int .i64 b0) := (blk_cell HK2.out 0).trans rfl
  have hz1 : w3.cell? ⟨g2, 1, none⟩ = some (.slice B1 k1.length d1) := (blk_cell HK2.out 1).trans rfl
  have hz2 : w3.cell? ⟨g2, 2, none⟩ = some (.slice B2 k2.length d2) := (blk_cell HK2.out 2).trans rfl
  have hz3 : w3.cell? ⟨g2, 3, none⟩ = some (.slice B3 k3.length d3) := (blk_cell HK2.out 3).trans rfl
  go_wp2_with fail
  refine (ref09_Copy b0 B1 B2 B3 d1 d2 d3 k1 k2 k3 w3 (Kd.C_below Hbh1.out HB.out) bm1 (Kd.C_below Hbh2.out HB.out) bm2 (Kd.C_below Hbh3.out HB.out) bm3 Hbs1.out Hbs2.out Hbs3.out).mono ?_
  rintro e w4 hp
  clear hz0 hz1 hz2 hz3
  obtain ⟨v1, v2, v3, rfl, r1, r2, r3, hb⟩ := hp.out
  obtain ⟨Xb1, xb1, rfl, n1, y1⟩ := Kd.S_reads r1
  obtain ⟨Xb2, xb2, rfl, n2, y2⟩ := Kd.S_reads r2
  obtain ⟨Xb3, xb3, rfl, n3, y3⟩ := Kd.S_reads r3
  clear r1 r2 r3
  replace HB := Aside0.mk (below_step HB.out hb)
  replace HK1 := Aside0.mk (blk_below HK1.out hb)
  replace HK2 := Aside0.mk (blk_below HK2.out hb)
  replace HRa := Aside0.mk (Kd.C_below HRa.out hb)
  clear hb
  have HY1 := Aside0.mk y1
  have HY2 := Aside0.mk y2
  have HY3 := Aside0.mk y3
  clear y1 y2 y3
  go_wp2_with fail
  refine (snap_Encode b0 Xb1 Xb2 Xb3 xb1 xb2 xb3 k1 k2 k3 w4 HY1.out n1 HY2.out n2 HY3.out n3).mono ?_
  rintro e w5 hp
  obtain ⟨v, bb, er, rfl, ho, hb, hyes, hno⟩ := hp.out
  clear HY1 HY2 HY3 n1 n2 n3
  obtain ⟨hb1, her⟩ := hno HGb.out
  subst her
  clear hb1 hyes hno
  obtain ⟨Eb, fb, hv, hf, hr⟩ := ho.reads
  subst hv
  clear ho hf
  replace HB := Aside0.mk (below_step HB.out hb)
  replace HK1 := Aside0.mk (blk_below HK1.out hb)
  replace HK2 := Aside0.mk (blk_below HK2.out hb)
  replace HRa := Aside0.mk (Kd.C_below HRa.out hb)
  clear hb
  have HRb := Aside0.mk (hr)
  clear hr
  have hz0 : w5.cell? ⟨g1, 0, none⟩ = some (.int .i64 a0) := (blk_cell HK1.out 0).trans rfl
  have hz1 : w5.cell? ⟨g1, 1, none⟩ = some (.slice A1 l1.length c1) := (blk_cell HK1.out 1).trans rfl
  have hz2 : w5.cell? ⟨g1, 2, none⟩ = some (.slice A2 l2.length c2) := (blk_cell HK1.out 2).trans rfl
  have hz3 : w5.cell? ⟨g1, 3, none⟩ = some (.slice A3 l3.length c3) := (blk_cell HK1.out 3).trans rfl
  have hy0 : w5.cell? ⟨g2, 0, none⟩ = some (.int .i64 b0) := (blk_cell HK2.out 0).trans rfl
  have hy1 : w5.cell? ⟨g2, 1, none⟩ = some (.slice B1 k1.length d1) := (blk_cell HK2.out 1).trans rfl
  have hy2 : w5.cell? ⟨g2, 2, none⟩ = some (.slice B2 k2.length d2) := (blk_cell HK2.out 2).trans rfl
  have hy3 : w5.cell? ⟨g2, 3, none⟩ = some (.slice B3 k3.length d3) := (blk_cell HK2.out 3).trans rfl
  go_wp2_with fail
  refine (session_Right a0 A1 A2 A3 c1 c2 c3 l1 l2 l3 w5 (Kd.C_below Hah1.out HB.out) am1 (Kd.C_below Hah2.out HB.out) am2 (Kd.C_below Hah3.out HB.out) am3).mono ?_
  rintro e w6 ⟨rr, rfl, hb, hiff⟩
  obtain rfl : rr = true := hiff.2 HGa.out
  clear hiff
  clear hz0 hz1 hz2 hz3 hy0 hy1 hy2 hy3
  replace HB := Aside0.mk (below_step HB.out hb)
  replace HK1 := Aside0.mk (blk_below HK1.out hb)
  replace HK2 := Aside0.mk (blk_below HK2.out hb)
  replace HRa := Aside0.mk (Kd.C_below HRa.out hb)
  replace HRb := Aside0.mk (Kd.C_below HRb.out hb)
  clear hb
  have hz0 : w6.cell? ⟨g1, 0, none⟩ = some (.int .i64 a0) := (blk_cell HK1.out 0).trans rfl
  have hz1 : w6.cell? ⟨g1, 1, none⟩ = some (.slice A1 l1.length c1) := (blk_cell HK1.out 1).trans rfl
  have hz2 : w6.cell? ⟨g1, 2, none⟩ = some (.slice A2 l2.length c2) := (blk_cell HK1.out 2).trans rfl
  have hz3 : w6.cell? ⟨g1, 3, none⟩ = some (.slice A3 l3.length c3) := (blk_cell HK1.out 3).trans rfl
  have hy0 : w6.cell? ⟨g2, 0, none⟩ = some (.int .i64 b0) := (blk_cell HK2.out 0).trans rfl
  have hy1 : w6.cell? ⟨g2, 1, none⟩ = some (.slice B1 k1.length d1) := (blk_cell HK2.out 1).trans rfl
  have hy2 : w6.cell? ⟨g2, 2, none⟩ = some (.slice B2 k2.length d2) := (blk_cell HK2.out 2).trans rfl
  have hy3 : w6.cell? ⟨g2, 3, none⟩ = some (.slice B3 k3.length d3) := (blk_cell HK2.out 3).trans rfl
  go_wp2_with fail
  refine (session_Right b0 B1 B2 B3 d1 d2 d3 k1 k2 k3 w6 (Kd.C_below Hbh1.out HB.out) bm1 (Kd.C_below Hbh2.out HB.out) bm2 (Kd.C_below Hbh3.out HB.out) bm3).mono ?_
  rintro e w7 ⟨rr, rfl, hb, hiff⟩
  obtain rfl : rr = false := eq_false_of_ne_true (fun h => HGb.out (hiff.1 h))
  clear hiff
  clear hz0 hz1 hz2 hz3 hy0 hy1 hy2 hy3
  replace HB := Aside0.mk (below_step HB.out hb)
  replace HK1 := Aside0.mk (blk_below HK1.out hb)
  replace HK2 := Aside0.mk (blk_below HK2.out hb)
  replace HRa := Aside0.mk (Kd.C_below HRa.out hb)
  replace HRb := Aside0.mk (Kd.C_below HRb.out hb)
  clear hb
  go_wp2_with fail
  go_ret
  exact ⟨rfl, HB.out⟩
set_option maxHeartbeats 4000000 in
set_option maxRecDepth 100000 in
theorem law_SnapUnlike_01 (a0 : Int) (A1 A2 A3 : Option Addr) (c1 c2 c3 : Nat) (l1 : List S72) (l2 : List S87) (l3 : List S97) (b0 : Int) (B1 B2 B3 : Option Addr) (d1 d2 d3 : Nat) (k1 : List S72) (k2 : List S87) (k3 : List S97) (w : World) (ah1 : Kd.C k72 w A1 l1.length l1) (am1 : l1.length ≤ c1) (ah2 : Kd.C k87 w A2 l2.length l2) (am2 : l2.length ≤ c2) (ah3 : Kd.C k97 w A3 l3.length l3) (am3 : l3.length ≤ c3) (as1 : smallE l1) (as2 : smallL l2) (as3 : smallS l3) (aw1 : wfE l1) (aw2 : wfL l2) (aw3 : wfS l3) (bh1 : Kd.C k72 w B1 k1.length k1) (bm1 : k1.length ≤ d1) (bh2 : Kd.C k87 w B2 k2.length k2) (bm2 : k2.length ≤ d2) (bh3 : Kd.C k97 w B3 k3.length k3) (bm3 : k3.length ≤ d3) (bs1 : smallE k1) (bs2 : smallL k2) (bs3 : smallS k3) (bw1 : wfE k1) (bw2 : wfL k2) (bw3 : wfS k3) (HGa : Aside0 (¬ goodA a0 l1 l2 l3)) (HGb : Aside0 (goodA b0 k1 k2 k3)) :
    Calls Try.prog 6 #[.agg #[.int .i64 a0, .slice A1 l1.length c1, .slice A2 l2.length c2, .slice A3 l3.length c3], .agg #[.int .i64 b0, .slice B1 k1.length d1, .slice B2 k2.length d2, .slice B3 k3.length d3]] w fun e w' => e = .returned (.bool true) ∧ Below w.heap.size w w' := by
  have Hah1 := Aside0.mk ah1
  have Hah2 := Aside0.mk ah2
  have Hah3 := Aside0.mk ah3
  have Hbh1 := Aside0.mk bh1
  have Hbh2 := Aside0.mk bh2
  have Hbh3 := Aside0.mk bh3
  have Has1 := Aside0.mk as1
  have Has2 := Aside0.mk as2
  have Has3 := Aside0.mk as3
  have Hbs1 := Aside0.mk bs1
  have Hbs2 := Aside0.mk bs2
  have Hbs3 := Aside0.mk bs3
  have Haw1 := Aside0.mk aw1
  have Haw2 := Aside0.mk aw2
  have Haw3 := Aside0.mk aw3
  have Hbw1 := Aside0.mk bw1
  have Hbw2 := Aside0.mk bw2
  have Hbw3 := Aside0.mk bw3
  clear ah1 ah2 ah3 bh1 bh2 bh3 as1 as2 as3 bs1 bs2 bs3 aw1 aw2 aw3 bw1 bw2 bw3
  obtain ⟨g1, hg1⟩ : ∃ g, g = w.heap.size := ⟨_, rfl⟩
  obtain ⟨g2, hg2⟩ : ∃ g, g = w.heap.size + 1 := ⟨_, rfl⟩
  obtain ⟨W0, hW0⟩ : ∃ W, W = (w.alloc (.cells #[.int .i64 a0, .slice A1 l1.length c1, .slice A2 l2.length c2, .slice A3 l3.length c3] 26)).alloc (.cells #[.int .i64 b0, .slice B1 k1.length d1, .slice B2 k2.length d2, .slice B3 k3.length d3] 26) := ⟨_, rfl⟩
  have HB := Aside0.mk (show Below w.heap.size w W0 from by rw [hW0]; exact below_alloc (below_alloc (Below.refl _ _) _) _)
  have HK1 := Aside0.mk (show W0.heap[g1]? = some (.cells #[.int .i64 a0, .slice A1 l1.length c1, .slice A2 l2.length c2, .slice A3 l3.length c3] 26 (0, 0)) from by rw [hW0, hg1]; exact blk_below (blk_new _ _) (below_alloc (Below.refl _ _) _))
  have HK2 := Aside0.mk (show W0.heap[g2]? = some (.cells #[.int .i64 b0, .slice B1 k1.length d1, .slice B2 k2.length d2, .slice B3 k3.length d3] 26 (0, 0)) by rw [hW0, hg2, show w.heap.size + 1 = (w.alloc (.cells #[.int .i64 a0, .slice A1 l1.length c1, .slice A2 l2.length c2, .slice A3 l3.length c3] 26)).heap.size by simp]; exact blk_new _ _)
  go_enter Try.func6, Try.ntmps6
  go_wp2_with fail
  try rw [← hg2]
  try rw [← hg1]
  rw [← hW0]
  clear hg1 hg2 hW0
  refine (snapAlive W0).mono ?_
  rintro e w1 ⟨rfl, hb⟩
  replace HB := Aside0.mk (below_step HB.out hb)
  replace HK1 := Aside0.mk (blk_below HK1.out hb)
  replace HK2 := Aside0.mk (blk_below HK2.out hb)
  clear hb
  have hz0 : w1.cell? ⟨g1, 0, none⟩ = some (.int .i64 a0) := (blk_cell HK1.out 0).trans rfl
  have hz1 : w1.cell? ⟨g1, 1, none⟩ = some (.slice A1 l1.length c1) := (blk_cell HK1.out 1).trans rfl
  have hz2 : w1.cell? ⟨g1, 2, none⟩ = some (.slice A2 l2.length c2) := (blk_cell HK1.out 2).trans rfl
  have hz3 : w1.cell? ⟨g1, 3, none⟩ = some (.slice A3 l3.length c3) := (blk_cell HK1.out 3).trans rfl
  go_wp2_with fail
  refine (ref09_Copy a0 A1 A2 A3 c1 c2 c3 l1 l2 l3 w1 (Kd.C_below Hah1.out HB.out) am1 (Kd.C_below Hah2.out HB.out) am2 (Kd.C_below Hah3.out HB.out) am3 Has1.out Has2.out Has3.out).mono ?_
  rintro e w2 hp
  clear hz0 hz1 hz2 hz3
  obtain ⟨v1, v2, v3, rfl, r1, r2, r3, hb⟩ := hp.out
  obtain ⟨Xa1, xa1, rfl, n1, y1⟩ := Kd.S_reads r1
  obtain ⟨Xa2, xa2, rfl, n2, y2⟩ := Kd.S_reads r2
  obtain ⟨Xa3, xa3, rfl, n3, y3⟩ := Kd.S_reads r3
  clear r1 r2 r3
  replace HB := Aside0.mk (below_step HB.out hb)
  replace HK1 := Aside0.mk (blk_below HK1.out hb)
  replace HK2 := Aside0.mk (blk_below HK2.out hb)
  clear hb
  have HY1 := Aside0.mk y1
  have HY2 := Aside0.mk y2
  have HY3 := Aside0.mk y3
  clear y1 y2 y3
  go_wp2_with fail
  refine (snap_Encode a0 Xa1 Xa2 Xa3 xa1 xa2 xa3 l1 l2 l3 w2 HY1.out n1 HY2.out n2 HY3.out n3).mono ?_
  rintro e w3 hp
  obtain ⟨v, ba, er, rfl, ho, hb, hyes, hno⟩ := hp.out
  clear HY1 HY2 HY3 n1 n2 n3
  obtain ⟨hb1, her⟩ := hno HGa.out
  subst her
  clear hb1 hyes hno
  obtain ⟨Ea, fa, hv, hf, hr⟩ := ho.reads
  subst hv
  clear ho hf
  replace HB := Aside0.mk (below_step HB.out hb)
  replace HK1 := Aside0.mk (blk_below HK1.out hb)
  replace HK2 := Aside0.mk (blk_below HK2.out hb)
  clear hb
  have HRa := Aside0.mk (hr)
  clear hr
  have hz0 : w3.cell? ⟨g2, 0, none⟩ = some (.int .i64 b0) := (blk_cell HK2.out 0).trans rfl
  have hz1 : w3.cell? ⟨g2, 1, none⟩ = some (.slice B1 k1.length d1) := (blk_cell HK2.out 1).trans rfl
  have hz2 : w3.cell? ⟨g2, 2, none⟩ = some (.slice B2 k2.length d2) := (blk_cell HK2.out 2).trans rfl
  have hz3 : w3.cell? ⟨g2, 3, none⟩ = some (.slice B3 k3.length d3) := (blk_cell HK2.out 3).trans rfl
  go_wp2_with fail
  refine (ref09_Copy b0 B1 B2 B3 d1 d2 d3 k1 k2 k3 w3 (Kd.C_below Hbh1.out HB.out) bm1 (Kd.C_below Hbh2.out HB.out) bm2 (Kd.C_below Hbh3.out HB.out) bm3 Hbs1.out Hbs2.out Hbs3.out).mono ?_
  rintro e w4 hp
  clear hz0 hz1 hz2 hz3
  obtain ⟨v1, v2, v3, rfl, r1, r2, r3, hb⟩ := hp.out
  obtain ⟨Xb1, xb1, rfl, n1, y1⟩ := Kd.S_reads r1
  obtain ⟨Xb2, xb2, rfl, n2, y2⟩ := Kd.S_reads r2
  obtain ⟨Xb3, xb3, rfl, n3, y3⟩ := Kd.S_reads r3
  clear r1 r2 r3
  replace HB := Aside0.mk (below_step HB.out hb)
  replace HK1 := Aside0.mk (blk_below HK1.out hb)
  replace HK2 := Aside0.mk (blk_below HK2.out hb)
  replace HRa := Aside0.mk (Kd.C_below HRa.out hb)
  clear hb
  have HY1 := Aside0.mk y1
  have HY2 := Aside0.mk y2
  have HY3 := Aside0.mk y3
  clear y1 y2 y3
  go_wp2_with fail
  refine (snap_Encode b0 Xb1 Xb2 Xb3 xb1 xb2 xb3 k1 k2 k3 w4 HY1.out n1 HY2.out n2 HY3.out n3).mono ?_
  rintro e w5 hp
  obtain ⟨v, bb, er, rfl, ho, hb, hyes, hno⟩ := hp.out
  clear HY1 HY2 HY3 n1 n2 n3
  obtain ⟨hb1, her⟩ := hyes HGb.out
  subst her
  clear hb1 hyes hno
  obtain ⟨Eb, fb, hv, hf, hr⟩ := ho.reads
  subst hv
  clear ho hf
  replace HB := Aside0.mk (below_step HB.out hb)
  replace HK1 := Aside0.mk (blk_below HK1.out hb)
  replace HK2 := Aside0.mk (blk_below HK2.out hb)
  replace HRa := Aside0.mk (Kd.C_below HRa.out hb)
  clear hb
  have HRb := Aside0.mk (hr)
  clear hr
  have hz0 : w5.cell? ⟨g1, 0, none⟩ = some (.int .i64 a0) := (blk_cell HK1.out 0).trans rfl
  have hz1 : w5.cell? ⟨g1, 1, none⟩ = some (.slice A1 l1.length c1) := (blk_cell HK1.out 1).trans rfl
  have hz2 : w5.cell? ⟨g1, 2, none⟩ = some (.slice A2 l2.length c2) := (blk_cell HK1.out 2).trans rfl
  have hz3 : w5.cell? ⟨g1, 3, none⟩ = some (.slice A3 l3.length c3) := (blk_cell HK1.out 3).trans rfl
  have hy0 : w5.cell? ⟨g2, 0, none⟩ = some (.int .i64 b0) := (blk_cell HK2.out 0).trans rfl
  have hy1 : w5.cell? ⟨g2, 1, none⟩ = some (.slice B1 k1.length d1) := (blk_cell HK2.out 1).trans rfl
  have hy2 : w5.cell? ⟨g2, 2, none⟩ = some (.slice B2 k2.length d2) := (blk_cell HK2.out 2).trans rfl
  have hy3 : w5.cell? ⟨g2, 3, none⟩ = some (.slice B3 k3.length d3) := (blk_cell HK2.out 3).trans rfl
  go_wp2_with fail
  refine (session_Right a0 A1 A2 A3 c1 c2 c3 l1 l2 l3 w5 (Kd.C_below Hah1.out HB.out) am1 (Kd.C_below Hah2.out HB.out) am2 (Kd.C_below Hah3.out HB.out) am3).mono ?_
  rintro e w6 ⟨rr, rfl, hb, hiff⟩
  obtain rfl : rr = false := eq_false_of_ne_true (fun h => HGa.out (hiff.1 h))
  clear hiff
  clear hz0 hz1 hz2 hz3 hy0 hy1 hy2 hy3
  replace HB := Aside0.mk (below_step HB.out hb)
  replace HK1 := Aside0.mk (blk_below HK1.out hb)
  replace HK2 := Aside0.mk (blk_below HK2.out hb)
  replace HRa := Aside0.mk (Kd.C_below HRa.out hb)
  replace HRb := Aside0.mk (Kd.C_below HRb.out hb)
  clear hb
  have hz0 : w6.cell? ⟨g1, 0, none⟩ = some (.int .i64 a0) := (blk_cell HK1.out 0).trans rfl
  have hz1 : w6.cell? ⟨g1, 1, none⟩ = some (.slice A1 l1.length c1) := (blk_cell HK1.out 1).trans rfl
  have hz2 : w6.cell? ⟨g1, 2, none⟩ = some (.slice A2 l2.length c2) := (blk_cell HK1.out 2).trans rfl
  have hz3 : w6.cell? ⟨g1, 3, none⟩ = some (.slice A3 l3.length c3) := (blk_cell HK1.out 3).trans rfl
  have hy0 : w6.cell? ⟨g2, 0, none⟩ = some (.int .i64 b0) := (blk_cell HK2.out 0).trans rfl
  have hy1 : w6.cell? ⟨g2, 1, none⟩ = some (.slice B1 k1.length d1) := (blk_cell HK2.out 1).trans rfl
  have hy2 : w6.cell? ⟨g2, 2, none⟩ = some (.slice B2 k2.length d2) := (blk_cell HK2.out 2).trans rfl
  have hy3 : w6.cell? ⟨g2, 3, none⟩ = some (.slice B3 k3.length d3) := (blk_cell HK2.out 3).trans rfl
  go_wp2_with fail
  refine (session_Right b0 B1 B2 B3 d1 d2 d3 k1 k2 k3 w6 (Kd.C_below Hbh1.out HB.out) bm1 (Kd.C_below Hbh2.out HB.out) bm2 (Kd.C_below Hbh3.out HB.out) bm3).mono ?_
  rintro e w7 ⟨rr, rfl, hb, hiff⟩
  obtain rfl : rr = true := hiff.2 HGb.out
  clear hiff
  clear hz0 hz1 hz2 hz3 hy0 hy1 hy2 hy3
  replace HB := Aside0.mk (below_step HB.out hb)
  replace HK1 := Aside0.mk (blk_below HK1.out hb)
  replace HK2 := Aside0.mk (blk_below HK2.out hb)
  replace HRa := Aside0.mk (Kd.C_below HRa.out hb)
  replace HRb := Aside0.mk (Kd.C_below HRb.out hb)
  clear hb
  go_wp2_with fail
  go_ret
  exact ⟨rfl, HB.out⟩
set_option maxHeartbeats 4000000 in
set_option maxRecDepth 100000 in
theorem law_SnapUnlike_00 (a0 : Int) (A1 A2 A3 : Option Addr) (c1 c2 c3 : Nat) (l1 : List S72) (l2 : List S87) (l3 : List S97) (b0 : Int) (B1 B2 B3 : Option Addr) (d1 d2 d3 : Nat) (k1 : List S72) (k2 : List S87) (k3 : List S97) (w : World) (ah1 : Kd.C k72 w A1 l1.length l1) (am1 : l1.length ≤ c1) (ah2 : Kd.C k87 w A2 l2.length l2) (am2 : l2.length ≤ c2) (ah3 : Kd.C k97 w A3 l3.length l3) (am3 : l3.length ≤ c3) (as1 : smallE l1) (as2 : smallL l2) (as3 : smallS l3) (aw1 : wfE l1) (aw2 : wfL l2) (aw3 : wfS l3) (bh1 : Kd.C k72 w B1 k1.length k1) (bm1 : k1.length ≤ d1) (bh2 : Kd.C k87 w B2 k2.length k2) (bm2 : k2.length ≤ d2) (bh3 : Kd.C k97 w B3 k3.length k3) (bm3 : k3.length ≤ d3) (bs1 : smallE k1) (bs2 : smallL k2) (bs3 : smallS k3) (bw1 : wfE k1) (bw2 : wfL k2) (bw3 : wfS k3) (HGa : Aside0 (¬ goodA a0 l1 l2 l3)) (HGb : Aside0 (¬ goodA b0 k1 k2 k3)) :
    Calls Try.prog 6 #[.agg #[.int .i64 a0, .slice A1 l1.length c1, .slice A2 l2.length c2, .slice A3 l3.length c3], .agg #[.int .i64 b0, .slice B1 k1.length d1, .slice B2 k2.length d2, .slice B3 k3.length d3]] w fun e w' => e = .returned (.bool true) ∧ Below w.heap.size w w' := by
  have Hah1 := Aside0.mk ah1
  have Hah2 := Aside0.mk ah2
  have Hah3 := Aside0.mk ah3
  have Hbh1 := Aside0.mk bh1
  have Hbh2 := Aside0.mk bh2
  have Hbh3 := Aside0.mk bh3
  have Has1 := Aside0.mk as1
  have Has2 := Aside0.mk as2
  have Has3 := Aside0.mk as3
  have Hbs1 := Aside0.mk bs1
  have Hbs2 := Aside0.mk bs2
  have Hbs3 := Aside0.mk bs3
  have Haw1 := Aside0.mk aw1
  have Haw2 := Aside0.mk aw2
  have Haw3 := Aside0.mk aw3
  have Hbw1 := Aside0.mk bw1
  have Hbw2 := Aside0.mk bw2
  have Hbw3 := Aside0.mk bw3
  clear ah1 ah2 ah3 bh1 bh2 bh3 as1 as2 as3 bs1 bs2 bs3 aw1 aw2 aw3 bw1 bw2 bw3
  obtain ⟨g1, hg1⟩ : ∃ g, g = w.heap.size := ⟨_, rfl⟩
  obtain ⟨g2, hg2⟩ : ∃ g, g = w.heap.size + 1 := ⟨_, rfl⟩
  obtain ⟨W0, hW0⟩ : ∃ W, W = (w.alloc (.cells #[.int .i64 a0, .slice A1 l1.length c1, .slice A2 l2.length c2, .slice A3 l3.length c3] 26)).alloc (.cells #[.int .i64 b0, .slice B1 k1.length d1, .slice B2 k2.length d2, .slice B3 k3.length d3] 26) := ⟨_, rfl⟩
  have HB := Aside0.mk (show Below w.heap.size w W0 from by rw [hW0]; exact below_alloc (below_alloc (Below.refl _ _) _) _)
  have HK1 := Aside0.mk (show W0.heap[g1]? = some (.cells #[.int .i64 a0, .slice A1 l1.length c1, .slice A2 l2.length c2, .slice A3 l3.length c3] 26 (0, 0)) from by rw [hW0, hg1]; exact blk_below (blk_new _ _) (below_alloc (Below.refl _ _) _))
  have HK2 := Aside0.mk (show W0.heap[g2]? = some (.cells #[.int .i64 b0, .slice B1 k1.length d1, .slice B2 k2.length d2, .slice B3 k3.length d3] 26 (0, 0)) by rw [hW0, hg2, show w.heap.size + 1 = (w.alloc (.cells #[.int .i64 a0, .slice A1 l1.length c1, .slice A2 l2.length c2, .slice A3 l3.length c3] 26)).heap.size by simp]; exact blk_new _ _)
  go_enter Try.func6, Try.ntmps6
  go_wp2_with fail
  try rw [← hg2]
  try rw [← hg1]
  rw [← hW0]
  clear hg1 hg2 hW0
  refine (snapAlive W0).mono ?_
  rintro e w1 ⟨rfl, hb⟩
  replace HB := Aside0.mk (below_step HB.out hb)
  replace HK1 := Aside0.mk (blk_below HK1.out hb)
  replace HK2 := Aside0.mk (blk_below HK2.out hb)
  clear hb
  have hz0 : w1.cell? ⟨g1, 0, none⟩ = some (.int .i64 a0) := (blk_cell HK1.out 0).trans rfl
  have hz1 : w1.cell? ⟨g1, 1, none⟩ = some (.slice A1 l1.length c1) := (blk_cell HK1.out 1).trans rfl
  have hz2 : w1.cell? ⟨g1, 2, none⟩ = some (.slice A2 l2.length c2) := (blk_cell HK1.out 2).trans rfl
  have hz3 : w1.cell? ⟨g1, 3, none⟩ = some (.slice A3 l3.length c3) := (blk_cell HK1.out 3).trans rfl
  go_wp2_with fail
  refine (ref09_Copy a0 A1 A2 A3 c1 c2 c3 l1 l2 l3 w1 (Kd.C_below Hah1.out HB.out) am1 (Kd.C_below Hah2.out HB.out) am2 (Kd.C_below Hah3.out HB.out) am3 Has1.out Has2.out Has3.out).mono ?_
  rintro e w2 hp
  clear hz0 hz1 hz2 hz3
  obtain ⟨v1, v2, v3, rfl, r1, r2, r3, hb⟩ := hp.out
  obtain ⟨Xa1, xa1, rfl, n1, y1⟩ := Kd.S_reads r1
  obtain ⟨Xa2, xa2, rfl, n2, y2⟩ := Kd.S_reads r2
  obtain ⟨Xa3, xa3, rfl, n3, y3⟩ := Kd.S_reads r3
  clear r1 r2 r3
  replace HB := Aside0.mk (below_step HB.out hb)
  replace HK1 := Aside0.mk (blk_below HK1.out hb)
  replace HK2 := Aside0.mk (blk_below HK2.out hb)
  clear hb
  have HY1 := Aside0.mk y1
  have HY2 := Aside0.mk y2
  have HY3 := Aside0.mk y3
  clear y1 y2 y3
  go_wp2_with fail
  refine (snap_Encode a0 Xa1 Xa2 Xa3 xa1 xa2 xa3 l1 l2 l3 w2 HY1.out n1 HY2.out n2 HY3.out n3).mono ?_
  rintro e w3 hp
  obtain ⟨v, ba, er, rfl, ho, hb, hyes, hno⟩ := hp.out
  clear HY1 HY2 HY3 n1 n2 n3
  obtain ⟨hb1, her⟩ := hno HGa.out
  subst her
  clear hb1 hyes hno
  obtain ⟨Ea, fa, hv, hf, hr⟩ := ho.reads
  subst hv
  clear ho hf
  replace HB := Aside0.mk (below_step HB.out hb)
  replace HK1 := Aside0.mk (blk_below HK1.out hb)
  replace HK2 := Aside0.mk (blk_below HK2.out hb)
  clear hb
  have HRa := Aside0.mk (hr)
  clear hr
  have hz0 : w3.cell? ⟨g2, 0, none⟩ = some (.int .i64 b0) := (blk_cell HK2.out 0).trans rfl
  have hz1 : w3.cell? ⟨g2, 1, none⟩ = some (.slice B1 k1.length d1) := (blk_cell HK2.out 1).trans rfl
  have hz2 : w3.cell? ⟨g2, 2, none⟩ = some (.slice B2 k2.length d2) := (blk_cell HK2.out 2).trans rfl
  have hz3 : w3.cell? ⟨g2, 3, none⟩ = some (.slice B3 k3.length d3) := (blk_cell HK2.out 3).trans rfl
  go_wp2_with fail
  refine (ref09_Copy b0 B1 B2 B3 d1 d2 d3 k1 k2 k3 w3 (Kd.C_below Hbh1.out HB.out) bm1 (Kd.C_below Hbh2.out HB.out) bm2 (Kd.C_below Hbh3.out HB.out) bm3 Hbs1.out Hbs2.out Hbs3.out).mono ?_
  rintro e w4 hp
  clear hz0 hz1 hz2 hz3
  obtain ⟨v1, v2, v3, rfl, r1, r2, r3, hb⟩ := hp.out
  obtain ⟨Xb1, xb1, rfl, n1, y1⟩ := Kd.S_reads r1
  obtain ⟨Xb2, xb2, rfl, n2, y2⟩ := Kd.S_reads r2
  obtain ⟨Xb3, xb3, rfl, n3, y3⟩ := Kd.S_reads r3
  clear r1 r2 r3
  replace HB := Aside0.mk (below_step HB.out hb)
  replace HK1 := Aside0.mk (blk_below HK1.out hb)
  replace HK2 := Aside0.mk (blk_below HK2.out hb)
  replace HRa := Aside0.mk (Kd.C_below HRa.out hb)
  clear hb
  have HY1 := Aside0.mk y1
  have HY2 := Aside0.mk y2
  have HY3 := Aside0.mk y3
  clear y1 y2 y3
  go_wp2_with fail
  refine (snap_Encode b0 Xb1 Xb2 Xb3 xb1 xb2 xb3 k1 k2 k3 w4 HY1.out n1 HY2.out n2 HY3.out n3).mono ?_
  rintro e w5 hp
  obtain ⟨v, bb, er, rfl, ho, hb, hyes, hno⟩ := hp.out
  clear HY1 HY2 HY3 n1 n2 n3
  obtain ⟨hb1, her⟩ := hno HGb.out
  subst her
  clear hb1 hyes hno
  obtain ⟨Eb, fb, hv, hf, hr⟩ := ho.reads
  subst hv
  clear ho hf
  replace HB := Aside0.mk (below_step HB.out hb)
  replace HK1 := Aside0.mk (blk_below HK1.out hb)
  replace HK2 := Aside0.mk (blk_below HK2.out hb)
  replace HRa := Aside0.mk (Kd.C_below HRa.out hb)
  clear hb
  have HRb := Aside0.mk (hr)
  clear hr
  have hz0 : w5.cell? ⟨g1, 0, none⟩ = some (.int .i64 a0) := (blk_cell HK1.out 0).trans rfl
  have hz1 : w5.cell? ⟨g1, 1, none⟩ = some (.slice A1 l1.length c1) := (blk_cell HK1.out 1).trans rfl
  have hz2 : w5.cell? ⟨g1, 2, none⟩ = some (.slice A2 l2.length c2) := (blk_cell HK1.out 2).trans rfl
  have hz3 : w5.cell? ⟨g1, 3, none⟩ = some (.slice A3 l3.length c3) := (blk_cell HK1.out 3).trans rfl
  have hy0 : w5.cell? ⟨g2, 0, none⟩ = some (.int .i64 b0) := (blk_cell HK2.out 0).trans rfl
  have hy1 : w5.cell? ⟨g2, 1, none⟩ = some (.slice B1 k1.length d1) := (blk_cell HK2.out 1).trans rfl
  have hy2 : w5.cell? ⟨g2, 2, none⟩ = some (.slice B2 k2.length d2) := (blk_cell HK2.out 2).trans rfl
  have hy3 : w5.cell? ⟨g2, 3, none⟩ = some (.slice B3 k3.length d3) := (blk_cell HK2.out 3).trans rfl
  go_wp2_with fail
  refine (session_Right a0 A1 A2 A3 c1 c2 c3 l1 l2 l3 w5 (Kd.C_below Hah1.out HB.out) am1 (Kd.C_below Hah2.out HB.out) am2 (Kd.C_below Hah3.out HB.out) am3).mono ?_
  rintro e w6 ⟨rr, rfl, hb, hiff⟩
  obtain rfl : rr = false := eq_false_of_ne_true (fun h => HGa.out (hiff.1 h))
  clear hiff
  clear hz0 hz1 hz2 hz3 hy0 hy1 hy2 hy3
  replace HB := Aside0.mk (below_step HB.out hb)
  replace HK1 := Aside0.mk (blk_below HK1.out hb)
  replace HK2 := Aside0.mk (blk_below HK2.out hb)
  replace HRa := Aside0.mk (Kd.C_below HRa.out hb)
  replace HRb := Aside0.mk (Kd.C_below HRb.out hb)
  clear hb
  have hz0 : w6.cell? ⟨g1, 0, none⟩ = some (.int .i64 a0) := (blk_cell HK1.out 0).trans rfl
  have hz1 : w6.cell? ⟨g1, 1, none⟩ = some (.slice A1 l1.length c1) := (blk_cell HK1.out 1).trans rfl
  have hz2 : w6.cell? ⟨g1, 2, none⟩ = some (.slice A2 l2.length c2) := (blk_cell HK1.out 2).trans rfl
  have hz3 : w6.cell? ⟨g1, 3, none⟩ = some (.slice A3 l3.length c3) := (blk_cell HK1.out 3).trans rfl
  have hy0 : w6.cell? ⟨g2, 0, none⟩ = some (.int .i64 b0) := (blk_cell HK2.out 0).trans rfl
  have hy1 : w6.cell? ⟨g2, 1, none⟩ = some (.slice B1 k1.length d1) := (blk_cell HK2.out 1).trans rfl
  have hy2 : w6.cell? ⟨g2, 2, none⟩ = some (.slice B2 k2.length d2) := (blk_cell HK2.out 2).trans rfl
  have hy3 : w6.cell? ⟨g2, 3, none⟩ = some (.slice B3 k3.length d3) := (blk_cell HK2.out 3).trans rfl
  go_wp2_with fail
  refine (session_Right b0 B1 B2 B3 d1 d2 d3 k1 k2 k3 w6 (Kd.C_below Hbh1.out HB.out) bm1 (Kd.C_below Hbh2.out HB.out) bm2 (Kd.C_below Hbh3.out HB.out) bm3).mono ?_
  rintro e w7 ⟨rr, rfl, hb, hiff⟩
  obtain rfl : rr = false := eq_false_of_ne_true (fun h => HGb.out (hiff.1 h))
  clear hiff
  clear hz0 hz1 hz2 hz3 hy0 hy1 hy2 hy3
  replace HB := Aside0.mk (below_step HB.out hb)
  replace HK1 := Aside0.mk (blk_below HK1.out hb)
  replace HK2 := Aside0.mk (blk_below HK2.out hb)
  replace HRa := Aside0.mk (Kd.C_below HRa.out hb)
  replace HRb := Aside0.mk (Kd.C_below HRb.out hb)
  clear hb
  go_wp2_with fail
  go_ret
  exact ⟨rfl, HB.out⟩
theorem law_SnapUnlike (a0 : Int) (A1 A2 A3 : Option Addr) (c1 c2 c3 : Nat) (l1 : List S72) (l2 : List S87) (l3 : List S97) (b0 : Int) (B1 B2 B3 : Option Addr) (d1 d2 d3 : Nat) (k1 : List S72) (k2 : List S87) (k3 : List S97) (w : World) (ah1 : Kd.C k72 w A1 l1.length l1) (am1 : l1.length ≤ c1) (ah2 : Kd.C k87 w A2 l2.length l2) (am2 : l2.length ≤ c2) (ah3 : Kd.C k97 w A3 l3.length l3) (am3 : l3.length ≤ c3) (as1 : smallE l1) (as2 : smallL l2) (as3 : smallS l3) (aw1 : wfE l1) (aw2 : wfL l2) (aw3 : wfS l3) (bh1 : Kd.C k72 w B1 k1.length k1) (bm1 : k1.length ≤ d1) (bh2 : Kd.C k87 w B2 k2.length k2) (bm2 : k2.length ≤ d2) (bh3 : Kd.C k97 w B3 k3.length k3) (bm3 : k3.length ≤ d3) (bs1 : smallE k1) (bs2 : smallL k2) (bs3 : smallS k3) (bw1 : wfE k1) (bw2 : wfL k2) (bw3 : wfS k3) :
    Calls Try.prog 6 #[.agg #[.int .i64 a0, .slice A1 l1.length c1, .slice A2 l2.length c2, .slice A3 l3.length c3], .agg #[.int .i64 b0, .slice B1 k1.length d1, .slice B2 k2.length d2, .slice B3 k3.length d3]] w fun e w' => e = .returned (.bool true) ∧ Below w.heap.size w w' := by
  by_cases ha : goodA a0 l1 l2 l3
  · by_cases hb : goodA b0 k1 k2 k3
    · exact law_SnapUnlike_11 a0 A1 A2 A3 c1 c2 c3 l1 l2 l3 b0 B1 B2 B3 d1 d2 d3 k1 k2 k3 w ah1 am1 ah2 am2 ah3 am3 as1 as2 as3 aw1 aw2 aw3 bh1 bm1 bh2 bm2 bh3 bm3 bs1 bs2 bs3 bw1 bw2 bw3 ⟨ha⟩ ⟨hb⟩
    · exact law_SnapUnlike_10 a0 A1 A2 A3 c1 c2 c3 l1 l2 l3 b0 B1 B2 B3 d1 d2 d3 k1 k2 k3 w ah1 am1 ah2 am2 ah3 am3 as1 as2 as3 aw1 aw2 aw3 bh1 bm1 bh2 bm2 bh3 bm3 bs1 bs2 bs3 bw1 bw2 bw3 ⟨ha⟩ ⟨hb⟩
  · by_cases hb : goodA b0 k1 k2 k3
    · exact law_SnapUnlike_01 a0 A1 A2 A3 c1 c2 c3 l1 l2 l3 b0 B1 B2 B3 d1 d2 d3 k1 k2 k3 w ah1 am1 ah2 am2 ah3 am3 as1 as2 as3 aw1 aw2 aw3 bh1 bm1 bh2 bm2 bh3 bm3 bs1 bs2 bs3 bw1 bw2 bw3 ⟨ha⟩ ⟨hb⟩
    · exact law_SnapUnlike_00 a0 A1 A2 A3 c1 c2 c3 l1 l2 l3 b0 B1 B2 B3 d1 d2 d3 k1 k2 k3 w ah1 am1 ah2 am2 ah3 am3 as1 as2 as3 aw1 aw2 aw3 bh1 bm1 bh2 bm2 bh3 bm3 bs1 bs2 bs3 bw1 bw2 bw3 ⟨ha⟩ ⟨hb⟩

end Go.Proofs.Ytophfoenaekfjaa

