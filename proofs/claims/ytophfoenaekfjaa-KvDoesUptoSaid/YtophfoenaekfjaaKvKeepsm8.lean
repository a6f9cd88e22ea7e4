/- Parts of the proof of KvKeeps: Copies of operations, the same operation. The chapter's example. The reference's Same, of entries and of leases; no condition. -/
import Derived.Test.YtophfoenaekfjaaKvKeepsm5
import Derived.Test.YtophfoenaekfjaaKvKeepsm2
import Derived.Outline
import Derived.Deep.CutRange
import Derived.Deep.DeepCutAuto
import Derived.Lib.SlBytesConst
import Derived.Deep.RegionHeld3
namespace Go.Proofs.Ytophfoenaekfjaa
open Go.RowKit Go.Proofs.YtophfoenaekfjaaW.PrintWords Go.Proofs.YtophfoenaekfjaaW.PrintLast Go.Proofs.YtophfoenaekfjaaW.PrintMore Go.Proofs.Ytophfoenaekfjaa.PSnapEncodes
set_option linter.unusedVariables false
set_option linter.unusedSimpArgs false

structure PostCo (w : World) (k : Int) (n a b : List Int) (num : Int) (e : Ending) (w' : World) : Prop where
  mk ::
  out : ∃ v1 v2 v3, e = .returned (.agg #[.int .i64 k, v1, v2, v3, .int .i64 num]) ∧ OB w' w.heap.size v1 n ∧ OB w' w.heap.size v2 a ∧ OB w' w.heap.size v3 b ∧ Below w.heap.size w w'
theorem OB.set63 {w : World} {base g : Nat} {v : Value} {l : List Int} {cells : Array Value} {T : TypeId} (h : OB w base v l) (hb : w.heap[g]? = some (.cells cells T (0, 0))) (hT : T ≠ 5) (j : Nat) (u : Value) : OB (w.setCell ⟨g, j, none⟩ u) base v l :=
  ⟨Kd.R_set h.out hb (by intro q hq; rcases List.mem_cons.1 hq with rfl | hq; · exact fun e => hT e.symm
                         · cases hq) j u⟩
theorem OB.ne_blk63 {w : World} {base g : Nat} {v : Value} {l : List Int} {cells : Array Value} {T : TypeId} (h : OB w base v l) (hb : w.heap[g]? = some (.cells cells T (0, 0))) (hT : 5 ≠ T) : some g ≠ v.ownBlock := Kd.R_ne h.out hb hT
theorem put5 {W : World} {g : Nat} {v0 v1 v2 v3 v4 : Value} {T : TypeId} (h : W.heap[g]? = some (.cells #[v0, v1, v2, v3, v4] T (0, 0))) (a b c d e : Value) : (((((W.setCell ⟨g, 0, none⟩ a).setCell ⟨g, 1, none⟩ b).setCell ⟨g, 2, none⟩ c).setCell ⟨g, 3, none⟩ d).setCell ⟨g, 4, none⟩ e).heap[g]? = some (.cells #[a, b, c, d, e] T (0, 0)) :=
  (blk_set (blk_set (blk_set (blk_set (blk_set h 0 a) 1 b) 2 c) 3 d) 4 e).trans rfl
set_option maxHeartbeats 4000000 in
set_option maxRecDepth 100000 in
theorem ref07_CopyOp (k : Int) (A1 A2 A3 : Option Addr) (c1 c2 c3 : Nat) (n a b : List Int) (num : Int) (w : World) (hn : CB w A1 n) (ha : CB w A2 a) (hb : CB w A3 b) (sn : n.length ≤ 1048576) (sa : a.length ≤ 1048576) (sb' : b.length ≤ 1048576) :
    Calls Try.prog 38 #[.agg #[.int .i64 k, .slice A1 n.length c1, .slice A2 a.length c2, .slice A3 b.length c3, .int .i64 num]] w (PostCo w k n a b num) := by
  have HN := Aside0.mk hn
  have HA := Aside0.mk ha
  have HBb := Aside0.mk hb
  clear hn ha hb
  obtain ⟨g1, hg1⟩ : ∃ g, g = w.heap.size := ⟨_, rfl⟩
  obtain ⟨g2, hg2⟩ : ∃ g, g = w.heap.size + 1 := ⟨_, rfl⟩
  obtain ⟨W0, hW0⟩ : ∃ W, W = (w.alloc (.cells #[.int .i64 k, .slice A1 n.length c1, .slice A2 a.length c2, .slice A3 b.length c3, .int .i64 num] 63)).alloc (.cells #[.int .i64 0, .slice none 0 0, .slice none 0 0, .slice none 0 0, .int .i64 0] 63) := ⟨_, rfl⟩
  have HB := Aside0.mk (show Below w.heap.size w W0 by rw [hW0]; exact below_alloc (below_alloc (Below.refl _ _) _) _)
  have HK := Aside0.mk (show W0.heap[g1]? = some (.cells #[.int .i64 k, .slice A1 n.length c1, .slice A2 a.length c2, .slice A3 b.length c3, .int .i64 num] 63 (0, 0)) by rw [hW0, hg1]; exact blk_below (blk_new _ _) (below_alloc (Below.refl _ _) _))
  have HZ := Aside0.mk (show W0.heap[g2]? = some (.cells #[.int .i64 0, .slice none 0 0, .slice none 0 0, .slice none 0 0, .int .i64 0] 63 (0, 0)) by rw [hW0, hg2, show w.heap.size + 1 = (w.alloc (.cells #[.int .i64 k, .slice A1 n.length c1, .slice A2 a.length c2, .slice A3 b.length c3, .int .i64 num] 63)).heap.size by simp]; exact blk_new _ _)
  have HG := Aside0.mk (show w.heap.size ≤ g1 ∧ w.heap.size ≤ g2 ∧ g1 ≠ g2 ∧ g1 < W0.heap.size ∧ g2 < W0.heap.size from ⟨by omega, by omega, by omega, blk_lt HK.out, blk_lt HZ.out⟩)
  go_enter Try.func38, Try.ntmps38
  go_upto_region 1 with fail
  try rw [← hg2]
  try rw [← hg1]
  rw [← hW0]
  clear hg1 hg2 hW0
  have hc0 : W0.cell? ⟨g1, 0, none⟩ = some (.int .i64 k) := (blk_cell HK.out 0).trans rfl
  have hc1 : W0.cell? ⟨g1, 1, none⟩ = some (.slice A1 n.length c1) := (blk_cell HK.out 1).trans rfl
  have hc2 : W0.cell? ⟨g1, 2, none⟩ = some (.slice A2 a.length c2) := (blk_cell HK.out 2).trans rfl
  have hc3 : W0.cell? ⟨g1, 3, none⟩ = some (.slice A3 b.length c3) := (blk_cell HK.out 3).trans rfl
  have hc4 : W0.cell? ⟨g1, 4, none⟩ = some (.int .i64 num) := (blk_cell HK.out 4).trans rfl
  have hcf := blk_frozen HK.out 1
  go_upto_region 2 with (first | ((with_reducible refine gate_dst (N := 3) rfl ?_); refine ob_lit ([] : List Int) [] ?hg (N := 3) ?hd ?hr ?hi ?hm ?_; (case hd => rfl); (case hg => rfl); (case hr => first | (go_simp; done) | (go_simp; rfl)); (case hi => rfl); (case hm => simp); intro vl wl ho hb; have HOl := Aside0.mk ho; have HBl := Aside0.mk hb; have hcl1 : wl.cell? ⟨g1, 1, none⟩ = some (.slice A1 n.length c1) := (blk_cell (blk_below HK.out hb) 1).trans rfl; clear ho hb) | ((with_reducible refine gate_builtin (b := .append) (xs := #[.tmp 3, .tmp 5]) rfl ?_); at_builtin; refine ob_append rfl (.tmp 3) (.tmp 5) rfl rfl rfl HOl.out (Kd.C_below HN.out (below_step HB.out HBl.out)) ?hb ?hl ?_; (case hb => exact (below_size HBl.out)); (case hl => exact (by simp; omega)); intro va1 wa1 ho hg hat; have ho2 : OB wa1 W0.heap.size va1 n := ho; clear ho; obtain ⟨Av1, cv1, hv2, hcc, hrr⟩ := ho2.reads; subst hv2; clear hcc hrr; have HO1 := Aside0.mk ho2; have HBn := Aside0.mk (below_grown' (B := w.heap.size) (below_step HB.out HBl.out) (HOl.out.lower (below_size HB.out)) (Nat.le_trans (below_size HB.out) (below_size HBl.out)) hg); have HKn := Aside0.mk (blk_grown (blk_below HK.out HBl.out) hg (OB.ne_blk63 HOl.out (blk_below HK.out HBl.out) (by decide))); have HZn := Aside0.mk (blk_grown (blk_below HZ.out HBl.out) hg (OB.ne_blk63 HOl.out (blk_below HZ.out HBl.out) (by decide))); have hd0 : wa1.cell? ⟨g1, 0, none⟩ = some (.int .i64 k) := (blk_cell HKn.out 0).trans rfl; have hd1 : wa1.cell? ⟨g1, 1, none⟩ = some (.slice A1 n.length c1) := (blk_cell HKn.out 1).trans rfl; have hd2 : wa1.cell? ⟨g1, 2, none⟩ = some (.slice A2 a.length c2) := (blk_cell HKn.out 2).trans rfl; have hd3 : wa1.cell? ⟨g1, 3, none⟩ = some (.slice A3 b.length c3) := (blk_cell HKn.out 3).trans rfl; have hd4 : wa1.cell? ⟨g1, 4, none⟩ = some (.int .i64 num) := (blk_cell HKn.out 4).trans rfl; have hdf := blk_frozen HKn.out 1; clear ho2 hg hat))
  obtain ⟨ws1, hws1⟩ : ∃ W, W = wa1.setCell ⟨g1, 1, none⟩ (.slice Av1 n.length cv1) := ⟨_, rfl⟩
  have HK1 := Aside0.mk (show ws1.heap[g1]? = some (.cells #[.int .i64 k, .slice Av1 n.length cv1, .slice A2 a.length c2, .slice A3 b.length c3, .int .i64 num] 63 (0, 0)) by rw [hws1]; exact (blk_set HKn.out 1 (.slice Av1 n.length cv1)).trans rfl)
  have HZ1 := Aside0.mk (show ws1.heap[g2]? = some (.cells #[.int .i64 0, .slice none 0 0, .slice none 0 0, .slice none 0 0, .int .i64 0] 63 (0, 0)) by rw [hws1]; exact blk_far HZn.out (p := ⟨g1, 1, none⟩) (fun e => HG.out.2.2.1 e.symm) (.slice Av1 n.length cv1))
  have HB1 := Aside0.mk (show Below w.heap.size w ws1 by rw [hws1]; exact below_set HBn.out HG.out.1)
  replace HO1 := Aside0.mk (show OB ws1 w.heap.size (.slice Av1 n.length cv1) n by rw [hws1]; exact (HO1.out.set63 HKn.out (by decide) _ _).lower (below_size HB.out))
  rw [← hws1]
  clear hws1 HB HK HZ HBl HOl HBn HKn HZn hc0 hc1 hc2 hc3 hc4 hcf hcl1 hd0 hd1 hd2 hd3 hd4 hdf
  have HB := HB1
  have HK := HK1
  have HZ := HZ1
  clear HB1 HK1 HZ1
  have hc0 : ws1.cell? ⟨g1, 0, none⟩ = some (.int .i64 k) := (blk_cell HK.out 0).trans rfl
  have hc1 : ws1.cell? ⟨g1, 1, none⟩ = some (.slice Av1 n.length cv1) := (blk_cell HK.out 1).trans rfl
  have hc2 : ws1.cell? ⟨g1, 2, none⟩ = some (.slice A2 a.length c2) := (blk_cell HK.out 2).trans rfl
  have hc3 : ws1.cell? ⟨g1, 3, none⟩ = some (.slice A3 b.length c3) := (blk_cell HK.out 3).trans rfl
  have hc4 : ws1.cell? ⟨g1, 4, none⟩ = some (.int .i64 num) := (blk_cell HK.out 4).trans rfl
  have hcf := blk_frozen HK.out 2
  go_upto_region 3 with (first | ((with_reducible refine gate_dst (N := 8) rfl ?_); refine ob_lit ([] : List Int) [] ?hg (N := 8) ?hd ?hr ?hi ?hm ?_; (case hd => rfl); (case hg => rfl); (case hr => first | (go_simp; done) | (go_simp; rfl)); (case hi => rfl); (case hm => simp); intro vl wl ho hb; have HOl := Aside0.mk ho; have HBl := Aside0.mk hb; have hcl2 : wl.cell? ⟨g1, 2, none⟩ = some (.slice A2 a.length c2) := (blk_cell (blk_below HK.out hb) 2).trans rfl; clear ho hb) | ((with_reducible refine gate_builtin (b := .append) (xs := #[.tmp 8, .tmp 10]) rfl ?_); at_builtin; refine ob_append rfl (.tmp 8) (.tmp 10) rfl rfl rfl HOl.out (Kd.C_below HA.out (below_step HB.out HBl.out)) ?hb ?hl ?_; (case hb => exact (below_size HBl.out)); (case hl => exact (by simp; omega)); intro va2 wa2 ho hg hat; have ho2 : OB wa2 ws1.heap.size va2 a := ho; clear ho; obtain ⟨Av2, cv2, hv2, hcc, hrr⟩ := ho2.reads; subst hv2; clear hcc hrr; have HO2 := Aside0.mk ho2; have HBn := Aside0.mk (below_grown' (B := w.heap.size) (below_step HB.out HBl.out) (HOl.out.lower (below_size HB.out)) (Nat.le_trans (below_size HB.out) (below_size HBl.out)) hg); have HKn := Aside0.mk (blk_grown (blk_below HK.out HBl.out) hg (OB.ne_blk63 HOl.out (blk_below HK.out HBl.out) (by decide))); have HZn := Aside0.mk (blk_grown (blk_below HZ.out HBl.out) hg (OB.ne_blk63 HOl.out (blk_below HZ.out HBl.out) (by decide))); have HOn1 := Aside0.mk (OB.grown (HO1.out.below HBl.out) hg (fun k hk e => by have h1 := HO1.out.lt k hk; have h2 := HOl.out.base_le k e.symm; omega)); have hd0 : wa2.cell? ⟨g1, 0, none⟩ = some (.int .i64 k) := (blk_cell HKn.out 0).trans rfl; have hd1 : wa2.cell? ⟨g1, 1, none⟩ = some (.slice Av1 n.length cv1) := (blk_cell HKn.out 1).trans rfl; have hd2 : wa2.cell? ⟨g1, 2, none⟩ = some (.slice A2 a.length c2) := (blk_cell HKn.out 2).trans rfl; have hd3 : wa2.cell? ⟨g1, 3, none⟩ = some (.slice A3 b.length c3) := (blk_cell HKn.out 3).trans rfl; have hd4 : wa2.cell? ⟨g1, 4, none⟩ = some (.int .i64 num) := (blk_cell HKn.out 4).trans rfl; have hdf := blk_frozen HKn.out 2; clear ho2 hg hat))
  obtain ⟨ws2, hws2⟩ : ∃ W, W = wa2.setCell ⟨g1, 2, none⟩ (.slice Av2 a.length cv2) := ⟨_, rfl⟩
  have HK2 := Aside0.mk (show ws2.heap[g1]? = some (.cells #[.int .i64 k, .slice Av1 n.length cv1, .slice Av2 a.length cv2, .slice A3 b.length c3, .int .i64 num] 63 (0, 0)) by rw [hws2]; exact (blk_set HKn.out 2 (.slice Av2 a.length cv2)).trans rfl)
  have HZ2 := Aside0.mk (show ws2.heap[g2]? = some (.cells #[.int .i64 0, .slice none 0 0, .slice none 0 0, .slice none 0 0, .int .i64 0] 63 (0, 0)) by rw [hws2]; exact blk_far HZn.out (p := ⟨g1, 2, none⟩) (fun e => HG.out.2.2.1 e.symm) (.slice Av2 a.length cv2))
  have HB2 := Aside0.mk (show Below w.heap.size w ws2 by rw [hws2]; exact below_set HBn.out HG.out.1)
  replace HO1 := Aside0.mk (show OB ws2 w.heap.size (.slice Av1 n.length cv1) n by rw [hws2]; exact HOn1.out.set63 HKn.out (by decide) _ _)
  replace HO2 := Aside0.mk (show OB ws2 w.heap.size (.slice Av2 a.length cv2) a by rw [hws2]; exact (HO2.out.set63 HKn.out (by decide) _ _).lower (below_size HB.out))
  rw [← hws2]
  clear hws2 HB HK HZ HBl HOl HBn HKn HZn hc0 hc1 hc2 hc3 hc4 hcf hcl2 hd0 hd1 hd2 hd3 hd4 hdf HOn1
  have HB := HB2
  have HK := HK2
  have HZ := HZ2
  clear HB2 HK2 HZ2
  have hc0 : ws2.cell? ⟨g1, 0, none⟩ = some (.int .i64 k) := (blk_cell HK.out 0).trans rfl
  have hc1 : ws2.cell? ⟨g1, 1, none⟩ = some (.slice Av1 n.length cv1) := (blk_cell HK.out 1).trans rfl
  have hc2 : ws2.cell? ⟨g1, 2, none⟩ = some (.slice Av2 a.length cv2) := (blk_cell HK.out 2).trans rfl
  have hc3 : ws2.cell? ⟨g1, 3, none⟩ = some (.slice A3 b.length c3) := (blk_cell HK.out 3).trans rfl
  have hc4 : ws2.cell? ⟨g1, 4, none⟩ = some (.int .i64 num) := (blk_cell HK.out 4).trans rfl
  have hcf := blk_frozen HK.out 3
  go_upto_region 4 with (first | ((with_reducible refine gate_dst (N := 13) rfl ?_); refine ob_lit ([] : List Int) [] ?hg (N := 13) ?hd ?hr ?hi ?hm ?_; (case hd => rfl); (case hg => rfl); (case hr => first | (go_simp; done) | (go_simp; rfl)); (case hi => rfl); (case hm => simp); intro vl wl ho hb; have HOl := Aside0.mk ho; have HBl := Aside0.mk hb; have hcl3 : wl.cell? ⟨g1, 3, none⟩ = some (.slice A3 b.length c3) := (blk_cell (blk_below HK.out hb) 3).trans rfl; clear ho hb) | ((with_reducible refine gate_builtin (b := .append) (xs := #[.tmp 13, .tmp 15]) rfl ?_); at_builtin; refine ob_append rfl (.tmp 13) (.tmp 15) rfl rfl rfl HOl.out (Kd.C_below HBb.out (below_step HB.out HBl.out)) ?hb ?hl ?_; (case hb => exact (below_size HBl.out)); (case hl => exact (by simp; omega)); intro va3 wa3 ho hg hat; have ho2 : OB wa3 ws2.heap.size va3 b := ho; clear ho; obtain ⟨Av3, cv3, hv2, hcc, hrr⟩ := ho2.reads; subst hv2; clear hcc hrr; have HO3 := Aside0.mk ho2; have HBn := Aside0.mk (below_grown' (B := w.heap.size) (below_step HB.out HBl.out) (HOl.out.lower (below_size HB.out)) (Nat.le_trans (below_size HB.out) (below_size HBl.out)) hg); have HKn := Aside0.mk (blk_grown (blk_below HK.out HBl.out) hg (OB.ne_blk63 HOl.out (blk_below HK.out HBl.out) (by decide))); have HZn := Aside0.mk (blk_grown (blk_below HZ.out HBl.out) hg (OB.ne_blk63 HOl.out (blk_below HZ.out HBl.out) (by decide))); have HOn1 := Aside0.mk (OB.grown (HO1.out.below HBl.out) hg (fun k hk e => by have h1 := HO1.out.lt k hk; have h2 := HOl.out.base_le k e.symm; omega)); have HOn2 := Aside0.mk (OB.grown (HO2.out.below HBl.out) hg (fun k hk e => by have h1 := HO2.out.lt k hk; have h2 := HOl.out.base_le k e.symm; omega)); have hd0 : wa3.cell? ⟨g1, 0, none⟩ = some (.int .i64 k) := (blk_cell HKn.out 0).trans rfl; have hd1 : wa3.cell? ⟨g1, 1, none⟩ = some (.slice Av1 n.length cv1) := (blk_cell HKn.out 1).trans rfl; have hd2 : wa3.cell? ⟨g1, 2, none⟩ = some (.slice Av2 a.length cv2) := (blk_cell HKn.out 2).trans rfl; have hd3 : wa3.cell? ⟨g1, 3, none⟩ = some (.slice A3 b.length c3) := (blk_cell HKn.out 3).trans rfl; have hd4 : wa3.cell? ⟨g1, 4, none⟩ = some (.int .i64 num) := (blk_cell HKn.out 4).trans rfl; have hdf := blk_frozen HKn.out 3; clear ho2 hg hat))
  obtain ⟨ws3, hws3⟩ : ∃ W, W = wa3.setCell ⟨g1, 3, none⟩ (.slice Av3 b.length cv3) := ⟨_, rfl⟩
  have HK3 := Aside0.mk (show ws3.heap[g1]? = some (.cells #[.int .i64 k, .slice Av1 n.length cv1, .slice Av2 a.length cv2, .slice Av3 b.length cv3, .int .i64 num] 63 (0, 0)) by rw [hws3]; exact (blk_set HKn.out 3 (.slice Av3 b.length cv3)).trans rfl)
  have HZ3 := Aside0.mk (show ws3.heap[g2]? = some (.cells #[.int .i64 0, .slice none 0 0, .slice none 0 0, .slice none 0 0, .int .i64 0] 63 (0, 0)) by rw [hws3]; exact blk_far HZn.out (p := ⟨g1, 3, none⟩) (fun e => HG.out.2.2.1 e.symm) (.slice Av3 b.length cv3))
  have HB3 := Aside0.mk (show Below w.heap.size w ws3 by rw [hws3]; exact below_set HBn.out HG.out.1)
  replace HO1 := Aside0.mk (show OB ws3 w.heap.size (.slice Av1 n.length cv1) n by rw [hws3]; exact HOn1.out.set63 HKn.out (by decide) _ _)
  replace HO2 := Aside0.mk (show OB ws3 w.heap.size (.slice Av2 a.length cv2) a by rw [hws3]; exact HOn2.out.set63 HKn.out (by decide) _ _)
  replace HO3 := Aside0.mk (show OB ws3 w.heap.size (.slice Av3 b.length cv3) b by rw [hws3]; exact (HO3.out.set63 HKn.out (by decide) _ _).lower (below_size HB.out))
  rw [← hws3]
  clear hws3 HB HK HZ HBl HOl HBn HKn HZn hc0 hc1 hc2 hc3 hc4 hcf hcl3 hd0 hd1 hd2 hd3 hd4 hdf HOn1 HOn2
  have HB := HB3
  have HK := HK3
  have HZ := HZ3
  clear HB3 HK3 HZ3
  have hc0 : ws3.cell? ⟨g1, 0, none⟩ = some (.int .i64 k) := (blk_cell HK.out 0).trans rfl
  have hc1 : ws3.cell? ⟨g1, 1, none⟩ = some (.slice Av1 n.length cv1) := (blk_cell HK.out 1).trans rfl
  have hc2 : ws3.cell? ⟨g1, 2, none⟩ = some (.slice Av2 a.length cv2) := (blk_cell HK.out 2).trans rfl
  have hc3 : ws3.cell? ⟨g1, 3, none⟩ = some (.slice Av3 b.length cv3) := (blk_cell HK.out 3).trans rfl
  have hc4 : ws3.cell? ⟨g1, 4, none⟩ = some (.int .i64 num) := (blk_cell HK.out 4).trans rfl
  have hz0 : ws3.cell? ⟨g2, 0, none⟩ = some (.int .i64 0) := (blk_cell HZ.out 0).trans rfl
  have hzf0 := blk_frozen HZ.out 0
  have hz1 : ws3.cell? ⟨g2, 1, none⟩ = some (.slice none 0 0) := (blk_cell HZ.out 1).trans rfl
  have hzf1 := blk_frozen HZ.out 1
  have hz2 : ws3.cell? ⟨g2, 2, none⟩ = some (.slice none 0 0) := (blk_cell HZ.out 2).trans rfl
  have hzf2 := blk_frozen HZ.out 2
  have hz3 : ws3.cell? ⟨g2, 3, none⟩ = some (.slice none 0 0) := (blk_cell HZ.out 3).trans rfl
  have hzf3 := blk_frozen HZ.out 3
  have hz4 : ws3.cell? ⟨g2, 4, none⟩ = some (.int .i64 0) := (blk_cell HZ.out 4).trans rfl
  have hzf4 := blk_frozen HZ.out 4
  go_wp2_with fail
  refine bodyPost_ret (results_single rfl (.cell g2 63 #[.int .i64 k, .slice Av1 n.length cv1, .slice Av2 a.length cv2, .slice Av3 b.length cv3, .int .i64 num] (0, 0) _ rfl (put5 HZ.out _ _ _ _ _) Try.underlying63 rfl (by kernel_rfl) .nil)) rfl ?_
  have e0 := blk_set HZ.out 0 (.int .i64 k)
  have e1 := blk_set e0 1 (.slice Av1 n.length cv1)
  have e2 := blk_set e1 2 (.slice Av2 a.length cv2)
  have e3 := blk_set e2 3 (.slice Av3 b.length cv3)
  exact ⟨⟨_, _, _, rfl, (((((HO1.out.set63 HZ.out (by decide) _ _).set63 e0 (by decide) _ _).set63 e1 (by decide) _ _).set63 e2 (by decide) _ _).set63 e3 (by decide) _ _), (((((HO2.out.set63 HZ.out (by decide) _ _).set63 e0 (by decide) _ _).set63 e1 (by decide) _ _).set63 e2 (by decide) _ _).set63 e3 (by decide) _ _), (((((HO3.out.set63 HZ.out (by decide) _ _).set63 e0 (by decide) _ _).set63 e1 (by decide) _ _).set63 e2 (by decide) _ _).set63 e3 (by decide) _ _), below_set (below_set (below_set (below_set (below_set HB.out HG.out.2.1) HG.out.2.1) HG.out.2.1) HG.out.2.1) HG.out.2.1⟩⟩

structure sameO (k k' : Int) (n n' a a' b b' : List Int) (num num' : Int) : Prop where
  kind : k = k'
  num : num = num'
  name : sameB n n' = true
  fst : sameB a a' = true
  snd : sameB b b' = true
set_option maxHeartbeats 4000000 in
set_option maxRecDepth 100000 in
theorem ref07_SameOp (k k' : Int) (A1 A2 A3 B1 B2 B3 : Option Addr) (c1 c2 c3 d1 d2 d3 : Nat) (n n' a a' b b' : List Int) (num num' : Int) (w : World) (hn : CB w A1 n) (ha : CB w A2 a) (hb : CB w A3 b) (hn' : CB w B1 n') (ha' : CB w B2 a') (hb' : CB w B3 b') :
    Calls Try.prog 45 #[.agg #[.int .i64 k, .slice A1 n.length c1, .slice A2 a.length c2, .slice A3 b.length c3, .int .i64 num], .agg #[.int .i64 k', .slice B1 n'.length d1, .slice B2 a'.length d2, .slice B3 b'.length d3, .int .i64 num']] w (PostB w fun r => (r = true ↔ sameO k k' n n' a a' b b' num num')) := by
  have HN := Aside0.mk hn
  have HA := Aside0.mk ha
  have HBb := Aside0.mk hb
  have HN' := Aside0.mk hn'
  have HA' := Aside0.mk ha'
  have HBb' := Aside0.mk hb'
  clear hn ha hb hn' ha' hb'
  obtain ⟨g1, hg1⟩ : ∃ g, g = w.heap.size := ⟨_, rfl⟩
  obtain ⟨g2, hg2⟩ : ∃ g, g = w.heap.size + 1 := ⟨_, rfl⟩
  obtain ⟨W0, hW0⟩ : ∃ W, W = (w.alloc (.cells #[.int .i64 k, .slice A1 n.length c1, .slice A2 a.length c2, .slice A3 b.length c3, .int .i64 num] 63)).alloc (.cells #[.int .i64 k', .slice B1 n'.length d1, .slice B2 a'.length d2, .slice B3 b'.length d3, .int .i64 num'] 63) := ⟨_, rfl⟩
  have HB := Aside0.mk (show Below w.heap.size w W0 from by rw [hW0]; exact below_alloc (below_alloc (Below.refl _ _) _) _)
  have HK := Aside0.mk (show W0.heap[g1]? = some (.cells #[.int .i64 k, .slice A1 n.length c1, .slice A2 a.length c2, .slice A3 b.length c3, .int .i64 num] 63 (0, 0)) by rw [hW0, hg1]; exact blk_below (blk_new _ _) (below_alloc (Below.refl _ _) _))
  have HZ := Aside0.mk (show W0.heap[g2]? = some (.cells #[.int .i64 k', .slice B1 n'.length d1, .slice B2 a'.length d2, .slice B3 b'.length d3, .int .i64 num'] 63 (0, 0)) by rw [hW0, hg2, show w.heap.size + 1 = (w.alloc (.cells #[.int .i64 k, .slice A1 n.length c1, .slice A2 a.length c2, .slice A3 b.length c3, .int .i64 num] 63)).heap.size by simp]; exact blk_new _ _)
  go_enter Try.func45, Try.ntmps45
  go_upto_region 1 with fail
  try rw [← hg2]
  try rw [← hg1]
  rw [← hW0]
  clear hg1 hg2 hW0
  have hc0 : W0.cell? ⟨g1, 0, none⟩ = some (.int .i64 k) := (blk_cell HK.out 0).trans rfl
  have hc1 : W0.cell? ⟨g1, 1, none⟩ = some (.slice A1 n.length c1) := (blk_cell HK.out 1).trans rfl
  have hc2 : W0.cell? ⟨g1, 2, none⟩ = some (.slice A2 a.length c2) := (blk_cell HK.out 2).trans rfl
  have hc3 : W0.cell? ⟨g1, 3, none⟩ = some (.slice A3 b.length c3) := (blk_cell HK.out 3).trans rfl
  have hc4 : W0.cell? ⟨g1, 4, none⟩ = some (.int .i64 num) := (blk_cell HK.out 4).trans rfl
  have hd0 : W0.cell? ⟨g2, 0, none⟩ = some (.int .i64 k') := (blk_cell HZ.out 0).trans rfl
  have hd1 : W0.cell? ⟨g2, 1, none⟩ = some (.slice B1 n'.length d1) := (blk_cell HZ.out 1).trans rfl
  have hd2 : W0.cell? ⟨g2, 2, none⟩ = some (.slice B2 a'.length d2) := (blk_cell HZ.out 2).trans rfl
  have hd3 : W0.cell? ⟨g2, 3, none⟩ = some (.slice B3 b'.length d3) := (blk_cell HZ.out 3).trans rfl
  have hd4 : W0.cell? ⟨g2, 4, none⟩ = some (.int .i64 num') := (blk_cell HZ.out 4).trans rfl
  cases hq0 : (k == k') with
  | false =>
    go_wp2_with fail
    go_ret
    exact ⟨false, rfl, HB.out, iff_of_false (by simp) (fun h => ne_of_beq_false hq0 h.kind)⟩
  | true =>
    cases hq1 : (num == num') with
    | false =>
      go_wp2_with fail
      go_ret
      exact ⟨false, rfl, HB.out, iff_of_false (by simp) (fun h => ne_of_beq_false hq1 h.num)⟩
    | true =>
      go_wp2_with fail
      refine (ref01_Same A1 B1 c1 d1 n n' W0 (Kd.C_below HN.out HB.out) (Kd.C_below HN'.out HB.out)).mono ?_
      rintro e x0 ⟨rfl, hd⟩
      have hb := hd.below
      clear hd
      clear hc0 hc1 hc2 hc3 hc4 hd0 hd1 hd2 hd3 hd4
      replace HB := Aside0.mk (below_step HB.out hb)
      replace HK := Aside0.mk (blk_below HK.out hb)
      replace HZ := Aside0.mk (blk_below HZ.out hb)
      clear hb
      have hc0 : x0.cell? ⟨g1, 0, none⟩ = some (.int .i64 k) := (blk_cell HK.out 0).trans rfl
      have hc1 : x0.cell? ⟨g1, 1, none⟩ = some (.slice A1 n.length c1) := (blk_cell HK.out 1).trans rfl
      have hc2 : x0.cell? ⟨g1, 2, none⟩ = some (.slice A2 a.length c2) := (blk_cell HK.out 2).trans rfl
      have hc3 : x0.cell? ⟨g1, 3, none⟩ = some (.slice A3 b.length c3) := (blk_cell HK.out 3).trans rfl
      have hc4 : x0.cell? ⟨g1, 4, none⟩ = some (.int .i64 num) := (blk_cell HK.out 4).trans rfl
      have hd0 : x0.cell? ⟨g2, 0, none⟩ = some (.int .i64 k') := (blk_cell HZ.out 0).trans rfl
      have hd1 : x0.cell? ⟨g2, 1, none⟩ = some (.slice B1 n'.length d1) := (blk_cell HZ.out 1).trans rfl
      have hd2 : x0.cell? ⟨g2, 2, none⟩ = some (.slice B2 a'.length d2) := (blk_cell HZ.out 2).trans rfl
      have hd3 : x0.cell? ⟨g2, 3, none⟩ = some (.slice B3 b'.length d3) := (blk_cell HZ.out 3).trans rfl
      have hd4 : x0.cell? ⟨g2, 4, none⟩ = some (.int .i64 num') := (blk_cell HZ.out 4).trans rfl
      cases hs0 : sameB n n' with
      | false =>
        go_wp2_with fail
        go_ret
        exact ⟨false, rfl, HB.out, iff_of_false (by simp) (fun h => by have := h.name; rw [hs0] at this; cases this)⟩
      | true =>
        go_wp2_with fail
        refine (ref01_Same A2 B2 c2 d2 a a' x0 (Kd.C_below HA.out HB.out) (Kd.C_below HA'.out HB.out)).mono ?_
        rintro e x1 ⟨rfl, hd⟩
        have hb := hd.below
        clear hd
        clear hc0 hc1 hc2 hc3 hc4 hd0 hd1 hd2 hd3 hd4
        replace HB := Aside0.mk (below_step HB.out hb)
        replace HK := Aside0.mk (blk_below HK.out hb)
        replace HZ := Aside0.mk (blk_below HZ.out hb)
        clear hb
        have hc0 : x1.cell? ⟨g1, 0, none⟩ = some (.int .i64 k) := (blk_cell HK.out 0).trans rfl
        have hc1 : x1.cell? ⟨g1, 1, none⟩ = some (.slice A1 n.length c1) := (blk_cell HK.out 1).trans rfl
        have hc2 : x1.cell? ⟨g1, 2, none⟩ = some (.slice A2 a.length c2) := (blk_cell HK.out 2).trans rfl
        have hc3 : x1.cell? ⟨g1, 3, none⟩ = some (.slice A3 b.length c3) := (blk_cell HK.out 3).trans rfl
        have hc4 : x1.cell? ⟨g1, 4, none⟩ = some (.int .i64 num) := (blk_cell HK.out 4).trans rfl
        have hd0 : x1.cell? ⟨g2, 0, none⟩ = some (.int .i64 k') := (blk_cell HZ.out 0).trans rfl
        have hd1 : x1.cell? ⟨g2, 1, none⟩ = some (.slice B1 n'.length d1) := (blk_cell HZ.out 1).trans rfl
        have hd2 : x1.cell? ⟨g2, 2, none⟩ = some (.slice B2 a'.length d2) := (blk_cell HZ.out 2).trans rfl
        have hd3 : x1.cell? ⟨g2, 3, none⟩ = some (.slice B3 b'.length d3) := (blk_cell HZ.out 3).trans rfl
        have hd4 : x1.cell? ⟨g2, 4, none⟩ = some (.int .i64 num') := (blk_cell HZ.out 4).trans rfl
        cases hs1 : sameB a a' with
        | false =>
          go_wp2_with fail
          go_ret
          exact ⟨false, rfl, HB.out, iff_of_false (by simp) (fun h => by have := h.fst; rw [hs1] at this; cases this)⟩
        | true =>
          go_wp2_with fail
          refine (ref01_Same A3 B3 c3 d3 b b' x1 (Kd.C_below HBb.out HB.out) (Kd.C_below HBb'.out HB.out)).mono ?_
          rintro e x2 ⟨rfl, hd⟩
          have hb := hd.below
          clear hd
          clear hc0 hc1 hc2 hc3 hc4 hd0 hd1 hd2 hd3 hd4
          replace HB := Aside0.mk (below_step HB.out hb)
          replace HK := Aside0.mk (blk_below HK.out hb)
          replace HZ := Aside0.mk (blk_below HZ.out hb)
          clear hb
          have hc0 : x2.cell? ⟨g1, 0, none⟩ = some (.int .i64 k) := (blk_cell HK.out 0).trans rfl
          have hc1 : x2.cell? ⟨g1, 1, none⟩ = some (.slice A1 n.length c1) := (blk_cell HK.out 1).trans rfl
          have hc2 : x2.cell? ⟨g1, 2, none⟩ = some (.slice A2 a.length c2) := (blk_cell HK.out 2).trans rfl
          have hc3 : x2.cell? ⟨g1, 3, none⟩ = some (.slice A3 b.length c3) := (blk_cell HK.out 3).trans rfl
          have hc4 : x2.cell? ⟨g1, 4, none⟩ = some (.int .i64 num) := (blk_cell HK.out 4).trans rfl
          have hd0 : x2.cell? ⟨g2, 0, none⟩ = some (.int .i64 k') := (blk_cell HZ.out 0).trans rfl
          have hd1 : x2.cell? ⟨g2, 1, none⟩ = some (.slice B1 n'.length d1) := (blk_cell HZ.out 1).trans rfl
          have hd2 : x2.cell? ⟨g2, 2, none⟩ = some (.slice B2 a'.length d2) := (blk_cell HZ.out 2).trans rfl
          have hd3 : x2.cell? ⟨g2, 3, none⟩ = some (.slice B3 b'.length d3) := (blk_cell HZ.out 3).trans rfl
          have hd4 : x2.cell? ⟨g2, 4, none⟩ = some (.int .i64 num') := (blk_cell HZ.out 4).trans rfl
          cases hs2 : sameB b b' with
          | false =>
            go_wp2_with fail
            go_ret
            exact ⟨false, rfl, HB.out, iff_of_false (by simp) (fun h => by have := h.snd; rw [hs2] at this; cases this)⟩
          | true =>
            go_wp2_with fail
            go_ret
            exact ⟨true, rfl, HB.out, iff_of_true rfl ⟨eq_of_beq hq0, eq_of_beq hq1, hs0, hs1, hs2⟩⟩

end Go.Proofs.Ytophfoenaekfjaa

namespace Go.Proofs.Ytophfoenaekfjaa
open Go.RowKit Go.Proofs.YtophfoenaekfjaaW.PrintWords Go.Proofs.YtophfoenaekfjaaW.PrintLast Go.Proofs.YtophfoenaekfjaaW.PrintMore Go.Proofs.Ytophfoenaekfjaa.PSnapEncodes
set_option linter.unusedVariables false
set_option linter.unusedSimpArgs false

theorem goodE_nil : goodE [] := ⟨by simp, fun x h0 h1 => by simp at h1; omega⟩
theorem kv_ex1 : kvDo [] 2 [97] [49] [] 0 = ([⟨[97], [49]⟩], ⟨0, []⟩) := by
  rw [kvDo_good ⟨goodE_nil, ⟨by omega, by simp, by simp, by simp, by simp⟩, by omega⟩]
  rfl
theorem kv_ex2 : kvDo [⟨[97], [49]⟩] 3 [97] [50] [51] 0 = ([⟨[97], [49]⟩], ⟨2, [49]⟩) := by
  rw [kvDo_good ⟨⟨by simp, fun x h0 h1 => by
    have : x = 0 := by simp at h1; omega
    subst this
    exact ⟨by simp [rd_T72], fun h => by omega⟩⟩, ⟨by omega, by simp, by simp, by simp, by simp⟩, by omega⟩]
  have e1 : lbN (nm [⟨[97], [49]⟩]) [97] = 0 := by decide +kernel
  have e2 : fdN (nm [⟨[97], [49]⟩]) [97] = true := by decide +kernel
  rw [e1, e2]
  unfold kvOp
  rw [if_neg (fun h => by cases h.1), if_neg (by omega), if_neg (by omega), if_pos rfl, if_pos (by decide +kernel)]
  rfl
theorem conv_const (w : World) (k : Nat) (C : Array Value) (n c : Nat) (hk : k = w.heap.size) : (convert 29 29 (.slice (some ⟨k, 0, none⟩) n c)).run Try.prog (w.alloc (.cells C 5)) = .ok (.slice (some ⟨k, 0, none⟩) n c) (w.alloc (.cells C 5 (C.size, C.size + 1))) := by
  subst hk
  exact Lib.run_convert_bytes_const (P := Try.prog) w 29 5 C n c Try.underlying29 Try.underlying5
theorem C_one (w W : World) (x : Int) (o : Nat) (ho : o = w.heap.size) (hb : Below (w.heap.size + 1) (w.alloc (.cells #[.int .u8 x] 5 (1, 2))) W) : CB W (some ⟨o, 0, none⟩) [x] := by
  subst ho
  refine ⟨rfl, by simp, fun _ => ⟨_, rfl, fun j p hj => ?_⟩⟩
  obtain ⟨hjl, hjp⟩ := List.getElem?_eq_some_iff.1 hj
  have hj0 : j = 0 := by simp at hjl; omega
  subst hj0
  refine ⟨[.int .u8 x], rfl, by rw [← hjp]; rfl, fun i u hu => ?_⟩
  obtain ⟨hil, hiu⟩ := List.getElem?_eq_some_iff.1 hu
  have hi0 : i = 0 := by simp at hil; omega
  subst hi0
  rw [← hiu]
  have h1 : W.heap[w.heap.size]? = some (.cells #[.int .u8 x] 5 (1, 2)) := (hb.block w.heap.size (by omega)).trans (heap_alloc_new w _)
  exact (cell_of_row W w.heap.size 0 _ _ _ h1).trans rfl
set_option maxHeartbeats 4000000 in
set_option maxRecDepth 100000 in
theorem kvAlive (w : World) : Calls Try.prog 36 #[] w fun e w' => e = .returned (.bool true) ∧ Below w.heap.size w w' := by
  obtain ⟨w2, hw2⟩ : ∃ W, W = (w.alloc (.cells #[.int .u8 97] 5 (1, 2))).alloc (.cells #[.int .u8 49] 5 (1, 2)) := ⟨_, rfl⟩
  have hs1 : (w.alloc (.cells #[.int .u8 97] 5 (1, 2))).heap.size = w.heap.size + 1 := by simp
  have HB := Aside0.mk (show Below w.heap.size w w2 by rw [hw2]; exact below_alloc (below_alloc (Below.refl _ _) _) _)
  have HC1 := Aside0.mk (C_one w w2 97 w.heap.size rfl (by rw [hw2, ← hs1]; exact below_alloc (Below.refl _ _) _))
  have HC2 := Aside0.mk (show CB w2 (some ⟨w.heap.size + 1, 0, none⟩) [49] from C_one (w.alloc (.cells #[.int .u8 97] 5 (1, 2))) w2 49 (w.heap.size + 1) hs1.symm (by rw [hw2]; simpa using Below.refl _ _))
  clear hs1
  have kc := conv_const
  go_enter Try.func36, Try.ntmps36
  go_wp2_with fail
  rw [← hw2]
  clear hw2
  refine (kv_Do none (some ⟨w.heap.size, 0, none⟩) (some ⟨w.heap.size + 1, 0, none⟩) none 0 1 1 0 [] 2 [97] [49] [] 0 w2 (Kd.C_nil _ _) (by simp) HC1.out HC2.out (Kd.C_nil _ _) (by simp) (by omega)).mono ?_
  intro e w3 hp
  rw [kv_ex1] at hp
  obtain ⟨v, rv, N, he, hN, hS, hO, hb⟩ := hp.out
  simp only at he hS hO
  subst he
  obtain ⟨A1, c1, hv⟩ := Kd.S_slice hS
  obtain ⟨A2, c2, hrv⟩ := Kd.R_slice hO.out
  subst hv
  subst hrv
  have HS := Aside0.mk hS
  replace HB := Aside0.mk (below_step HB.out hb)
  clear hS hO hN hb HC1 HC2 hp
  obtain ⟨L, hL⟩ : ∃ L : List S72, [⟨[97], [49]⟩] = L := ⟨_, rfl⟩
  rw [hL] at HS ⊢
  have HL := Aside0.mk hL
  have HL1 := Aside0.mk (show L.length = 1 by rw [← hL]; rfl)
  clear hL
  obtain ⟨g2, hg2⟩ : ∃ g, g = w3.heap.size := ⟨_, rfl⟩
  obtain ⟨w4, hw4⟩ : ∃ W, W = w3.alloc (.cells #[.int .i64 0, .slice A2 0 c2] 45) := ⟨_, rfl⟩
  obtain ⟨w5, hw5⟩ : ∃ W, W = w4.alloc (.cells #[.int .u8 97] 5 (1, 2)) := ⟨_, rfl⟩
  obtain ⟨w6, hw6⟩ : ∃ W, W = w5.alloc (.cells #[.int .u8 50] 5 (1, 2)) := ⟨_, rfl⟩
  obtain ⟨w7, hw7⟩ : ∃ W, W = w6.alloc (.cells #[.int .u8 51] 5 (1, 2)) := ⟨_, rfl⟩
  have hs4 : w4.heap.size = w3.heap.size + 1 := by rw [hw4]; simp
  have hs5 : w5.heap.size = w3.heap.size + 1 + 1 := by rw [hw5]; simp [hs4]
  have hs6 : w6.heap.size = w3.heap.size + 1 + 1 + 1 := by rw [hw6]; simp [hs5]
  have h34 : Below w3.heap.size w3 w4 := by rw [hw4]; exact below_alloc (Below.refl _ _) _
  have h45 : Below w4.heap.size w4 w5 := by rw [hw5]; exact below_alloc (Below.refl _ _) _
  have h56 : Below w5.heap.size w5 w6 := by rw [hw6]; exact below_alloc (Below.refl _ _) _
  have h67 : Below w6.heap.size w6 w7 := by rw [hw7]; exact below_alloc (Below.refl _ _) _
  have HX := Aside0.mk (below_step (below_step (below_step h34 h45) h56) h67)
  have HB7 := Aside0.mk (below_step HB.out HX.out)
  have HG2 := Aside0.mk (show w7.heap[g2]? = some (.cells #[.int .i64 0, .slice A2 0 c2] 45 (0, 0)) from blk_below (by rw [hw4, hg2]; exact blk_new _ _) (below_step (below_step h45 h56) h67))
  have HC1 := Aside0.mk (C_one w4 w7 97 (w3.heap.size + 1) hs4.symm (by rw [← hw5, ← (show w5.heap.size = w4.heap.size + 1 by rw [hw5]; simp)]; exact below_step h56 h67))
  have HC2 := Aside0.mk (C_one w5 w7 50 (w3.heap.size + 1 + 1) hs5.symm (by rw [← hw6, ← (show w6.heap.size = w5.heap.size + 1 by rw [hw6]; simp)]; exact h67))
  have HC3 := Aside0.mk (C_one w6 w7 51 (w3.heap.size + 1 + 1 + 1) hs6.symm (by rw [← hw7, ← (show w7.heap.size = w6.heap.size + 1 by rw [hw7]; simp)]; exact Below.refl _ _))
  clear h34 h45 h56 h67 hs4 hs5 hs6
  go_wp2_with fail
  try rw [← hw4]
  try rw [← hw5]
  try rw [← hw6]
  try rw [← hw7]
  have HGE := Aside0.mk hg2
  clear hg2 hw4 hw5 hw6 hw7
  refine (kv_Do A1 (some ⟨w3.heap.size + 1, 0, none⟩) (some ⟨w3.heap.size + 1 + 1, 0, none⟩) (some ⟨w3.heap.size + 1 + 1 + 1, 0, none⟩) c1 1 1 1 L 3 [97] [50] [51] 0 w7 (Kd.S_reads' (Kd.S_below HS.out HX.out)).2.2 (Kd.S_reads' HS.out).2.1 HC1.out HC2.out HC3.out (by rw [← HL.out]; exact ⟨by simp, by intro x hx; rw [List.mem_singleton.1 hx]; simp⟩) (by omega)).mono ?_
  intro e w8 hp
  rw [show kvDo L 3 [97] [50] [51] 0 = (L, ⟨2, [49]⟩) by rw [← HL.out]; exact kv_ex2] at hp
  obtain ⟨v, rv, N, he, hN, hS, hO, hb⟩ := hp.out
  simp only at he hS hO
  subst he
  obtain ⟨A5, c5, hv⟩ := Kd.S_slice hS
  obtain ⟨A6, c6, hrv⟩ := Kd.R_slice hO.out
  subst hv
  subst hrv
  have HG8 := Aside0.mk (blk_below HG2.out hb)
  replace HB7 := Aside0.mk (below_step HB7.out hb)
  have HO6 := Aside0.mk hO.reads'.2.2
  clear hS hO hN hb hp HC1 HC2 HC3 HX HG2 HS
  obtain ⟨w9, hw9⟩ : ∃ W, W = w8.alloc (.cells #[.int .i64 2, .slice A6 1 c6] 45) := ⟨_, rfl⟩
  have h89 : Below w8.heap.size w8 w9 := by rw [hw9]; exact below_alloc (Below.refl _ _) _
  have HG9 := Aside0.mk (blk_below HG8.out h89)
  have hst : (convert 29 9 (.slice A6 1 c6)).run Try.prog (w8.alloc (.cells #[.int .i64 2, .slice A6 1 c6] 45)) = .ok (.string ⟨#[49]⟩) (w8.alloc (.cells #[.int .i64 2, .slice A6 1 c6] 45)) := by
    have h := Kd.C_string (P := Try.prog) (A := A6) (c := c6) Try.underlying29 Try.underlying5 Try.underlying9 (Kd.C_below HO6.out h89)
    rw [hw9] at h
    rw [show (([49] : List Int).length) = 1 from rfl] at h
    rw [h]
    rfl
  have hz0 : (w8.alloc (.cells #[.int .i64 2, .slice A6 1 c6] 45)).cell? ⟨w3.heap.size, 0, none⟩ = some (.int .i64 0) := by rw [← hw9, ← HGE.out]; exact (blk_cell HG9.out 0).trans rfl
  have hl1 : ((L.length : Int) == 1) = true := by rw [HL1.out]; rfl
  have HBF := Aside0.mk (below_step HB7.out h89)
  rw [hw9] at HBF
  clear h89
  go_wp2_with fail
  go_ret
  exact ⟨by first | rfl | simp, HBF.out⟩

end Go.Proofs.Ytophfoenaekfjaa

namespace Go.Proofs.Ytophfoenaekfjaa
open Go.RowKit Go.Proofs.YtophfoenaekfjaaW.PrintWords Go.Proofs.YtophfoenaekfjaaW.PrintLast Go.Proofs.YtophfoenaekfjaaW.PrintMore Go.Proofs.Ytophfoenaekfjaa.PSnapEncodes
set_option linter.unusedVariables false
set_option linter.unusedSimpArgs false

structure sameE1 (a b : S72) : Prop where
  f0 : sameB a.f0 b.f0 = true
  f1 : sameB a.f1 b.f1 = true
structure sameL1 (a b : S87) : Prop where
  f0 : sameB a.f0 b.f0 = true
  f1 : a.f1 = b.f1
  f2 : a.f2 = b.f2
structure sameS1 (a b : S97) : Prop where
  f0 : a.f0 = b.f0
  f1 : a.f1 = b.f1
  f2 : a.f2.f0 = b.f2.f0
  f3 : sameB a.f2.f1 b.f2.f1 = true
def sameE (a b : List S72) : Prop := a.length = b.length ∧ ∀ x : Int, 0 ≤ x → x < a.length → sameE1 (rd_T72 a x) (rd_T72 b x)
def sameL (a b : List S87) : Prop := a.length = b.length ∧ ∀ x : Int, 0 ≤ x → x < a.length → sameL1 (rd_T87 a x) (rd_T87 b x)
def sameS (a b : List S97) : Prop := a.length = b.length ∧ ∀ x : Int, 0 ≤ x → x < a.length → sameS1 (rd_T97 a x) (rd_T97 b x)
set_option maxHeartbeats 4000000 in
set_option maxRecDepth 100000 in
theorem ref07_Same (A0 A1 : Option Addr) (c0 c1 : Nat) (l l' : List S72) (w : World) (hr0 : Kd.C k72 w A0 l.length l) (hr1 : Kd.C k72 w A1 l'.length l') :
    Calls Try.prog 43 #[.slice A0 l.length c0, .slice A1 l'.length c1] w (PostB w fun b => (b = true ↔ sameE l l')) := by
  have hlen := hr0.2.1
  have hlen' := hr1.2.1
  have HR0 := Aside0.mk hr0
  have HR1 := Aside0.mk hr1
  clear hr0 hr1
  cases hh : decide (l.length = l'.length) with
  | false =>
    have hne : ((l.length : Int) == (l'.length : Int)) = false := beq_eq_false_iff_ne.2 (fun h => of_decide_eq_false hh (by omega))
    have hne2 : (l.length == l'.length) = false := beq_eq_false_iff_ne.2 (fun h => of_decide_eq_false hh h)
    have hne3 : ((l.length : Int) != (l'.length : Int)) = true := by rw [bne, hne]; rfl
    have hne4 : (l.length != l'.length) = true := by rw [bne, hne2]; rfl
    go_enter Try.func43, Try.ntmps43
    go_wp2
    go_ret
    exact ⟨false, rfl, (by repeat (first | exact Below.refl _ _ | apply below_alloc | apply pw_below_drewN)), iff_of_false (by simp) (fun h => of_decide_eq_false hh h.1)⟩
  | true =>
    have he := of_decide_eq_true hh
    have HE := Aside0.mk he
    have hne : ((l.length : Int) == (l'.length : Int)) = true := beq_iff_eq.2 (by omega)
    have hne2 : (l.length == l'.length) = true := beq_iff_eq.2 he
    have hne3 : ((l.length : Int) != (l'.length : Int)) = false := by rw [bne, hne]; rfl
    have hne4 : (l.length != l'.length) = false := by rw [bne, hne2]; rfl
    clear he hh
    go_enter Try.func43, Try.ntmps43
    go_wp2
    go_loopw [13] (fun v wr => ∃ x : Int, v = .int .i64 x ∧ 0 ≤ x ∧ x ≤ l.length ∧ Aside0 (Below w.heap.size w wr) ∧ Aside0 (∀ j, 0 ≤ j → j < x → sameE1 (rd_T72 l j) (rd_T72 l' j))) (fun v _ => l.length - (intOf v).toNat)
    case atStart => exact ⟨0, rfl, by omega, by omega, ⟨Below.refl _ _⟩, ⟨fun j h1 => by omega⟩⟩
    case round =>
      clear hne hne2 hne3 hne4
      obtain ⟨x, rfl, h0, hi, HB, HA⟩ := hrel
      by_cases hlt : x < l.length
      · have hlt' : x < l'.length := by have := HE.out; omega
        obtain ⟨ad, A, c, A2, c2, e1, hx0, hx1, hl, hn, hl2, hn2⟩ := at_T72 (Kd.C_below HR0.out HB.out) x h0 hlt
        obtain ⟨ad', B, d, B2, d2, e2, hy0, hy1, gl, gn, gl2, gn2⟩ := at_T72 (Kd.C_below HR1.out HB.out) x h0 hlt'
        subst e1
        subst e2
        have HN := Aside0.mk hn
        have GN := Aside0.mk gn
        clear hn gn
        have HN2 := Aside0.mk hn2
        have GN2 := Aside0.mk gn2
        clear hn2 gn2
        cases hq0 : sameB (rd_T72 l x).f0 (rd_T72 l' x).f0 with
        | false =>
          go_wp2_with fail
          go_quiet (first | (go_at_call 22; exact quiet_of_drawn (ref01_Same _ _ _ _ _ _ _ (Kd.C_drewN HN.out _) (Kd.C_drewN GN.out _))) | (go_at_call 22; exact quiet_of_drawn (ref01_Same _ _ _ _ _ _ _ (Kd.C_drewN HN2.out _) (Kd.C_drewN GN2.out _))))
          go_wp2
          go_ret
          exact ⟨false, rfl, (by repeat (first | exact HB.out | apply below_alloc | apply pw_below_drewN)), iff_of_false (by simp) (fun h => by have e := (h.2 x h0 hlt).f0; rw [hq0] at e; cases e)⟩
        | true =>
          cases hq1 : sameB (rd_T72 l x).f1 (rd_T72 l' x).f1 with
          | false =>
            go_wp2_with fail
            go_quiet (first | (go_at_call 22; exact quiet_of_drawn (ref01_Same _ _ _ _ _ _ _ (Kd.C_drewN HN.out _) (Kd.C_drewN GN.out _))) | (go_at_call 22; exact quiet_of_drawn (ref01_Same _ _ _ _ _ _ _ (Kd.C_drewN HN2.out _) (Kd.C_drewN GN2.out _))))
            go_wp2
            go_ret
            exact ⟨false, rfl, (by repeat (first | exact HB.out | apply below_alloc | apply pw_below_drewN)), iff_of_false (by simp) (fun h => by have e := (h.2 x h0 hlt).f1; rw [hq1] at e; cases e)⟩
          | true =>
            go_wp2_with fail
            go_quiet (first | (go_at_call 22; exact quiet_of_drawn (ref01_Same _ _ _ _ _ _ _ (Kd.C_drewN HN.out _) (Kd.C_drewN GN.out _))) | (go_at_call 22; exact quiet_of_drawn (ref01_Same _ _ _ _ _ _ _ (Kd.C_drewN HN2.out _) (Kd.C_drewN GN2.out _))))
            go_wp2
            go_roundw
            case rel => exact ⟨x + 1, by go_num, by omega, by omega, ⟨by repeat (first | exact HB.out | apply below_alloc | apply pw_below_drewN)⟩, ⟨fun j h1 h2 => if e : j = x then by rw [e]; exact ⟨hq0, hq1⟩ else HA.out j h1 (by omega)⟩⟩
            case measure => simp [intOf]; omega
      · go_wp2
        go_ret
        exact ⟨true, rfl, HB.out, iff_of_true rfl ⟨HE.out, fun y h1 h2 => HA.out y h1 (by omega)⟩⟩
set_option maxHeartbeats 4000000 in
set_option maxRecDepth 100000 in
theorem ref08_Same (A0 A1 : Option Addr) (c0 c1 : Nat) (l l' : List S87) (w : World) (hr0 : Kd.C k87 w A0 l.length l) (hr1 : Kd.C k87 w A1 l'.length l') :
    Calls Try.prog 55 #[.slice A0 l.length c0, .slice A1 l'.length c1] w (PostB w fun b => (b = true ↔ sameL l l')) := by
  have hlen := hr0.2.1
  have hlen' := hr1.2.1
  have HR0 := Aside0.mk hr0
  have HR1 := Aside0.mk hr1
  clear hr0 hr1
  cases hh : decide (l.length = l'.length) with
  | false =>
    have hne : ((l.length : Int) == (l'.length : Int)) = false := beq_eq_false_iff_ne.2 (fun h => of_decide_eq_false hh (by omega))
    have hne2 : (l.length == l'.length) = false := beq_eq_false_iff_ne.2 (fun h => of_decide_eq_false hh h)
    have hne3 : ((l.length : Int) != (l'.length : Int)) = true := by rw [bne, hne]; rfl
    have hne4 : (l.length != l'.length) = true := by rw [bne, hne2]; rfl
    go_enter Try.func55, Try.ntmps55
    go_wp2
    go_ret
    exact ⟨false, rfl, (by repeat (first | exact Below.refl _ _ | apply below_alloc | apply pw_below_drewN)), iff_of_false (by simp) (fun h => of_decide_eq_false hh h.1)⟩
  | true =>
    have he := of_decide_eq_true hh
    have HE := Aside0.mk he
    have hne : ((l.length : Int) == (l'.length : Int)) = true := beq_iff_eq.2 (by omega)
    have hne2 : (l.length == l'.length) = true := beq_iff_eq.2 he
    have hne3 : ((l.length : Int) != (l'.length : Int)) = false := by rw [bne, hne]; rfl
    have hne4 : (l.length != l'.length) = false := by rw [bne, hne2]; rfl
    clear he hh
    go_enter Try.func55, Try.ntmps55
    go_wp2
    go_loopw [13] (fun v wr => ∃ x : Int, v = .int .i64 x ∧ 0 ≤ x ∧ x ≤ l.length ∧ Aside0 (Below w.heap.size w wr) ∧ Aside0 (∀ j, 0 ≤ j → j < x → sameL1 (rd_T87 l j) (rd_T87 l' j))) (fun v _ => l.length - (intOf v).toNat)
    case atStart => exact ⟨0, rfl, by omega, by omega, ⟨Below.refl _ _⟩, ⟨fun j h1 => by omega⟩⟩
    case round =>
      clear hne hne2 hne3 hne4
      obtain ⟨x, rfl, h0, hi, HB, HA⟩ := hrel
      by_cases hlt : x < l.length
      · have hlt' : x < l'.length := by have := HE.out; omega
        obtain ⟨ad, A, c, e1, hx0, hx1, hx2, hl, hn⟩ := at_T87 (Kd.C_below HR0.out HB.out) x h0 hlt
        obtain ⟨ad', B, d, e2, hy0, hy1, hy2, gl, gn⟩ := at_T87 (Kd.C_below HR1.out HB.out) x h0 hlt'
        subst e1
        subst e2
        have HN := Aside0.mk hn
        have GN := Aside0.mk gn
        clear hn gn

        cases hq0 : sameB (rd_T87 l x).f0 (rd_T87 l' x).f0 with
        | false =>
          go_wp2_with fail
          go_quiet (first | (go_at_call 22; exact quiet_of_drawn (ref01_Same _ _ _ _ _ _ _ (Kd.C_drewN HN.out _) (Kd.C_drewN GN.out _))))
          go_wp2
          go_ret
          exact ⟨false, rfl, (by repeat (first | exact HB.out | apply below_alloc | apply pw_below_drewN)), iff_of_false (by simp) (fun h => by have e := (h.2 x h0 hlt).f0; rw [hq0] at e; cases e)⟩
        | true =>
          cases hq1 : ((rd_T87 l x).f1 != (rd_T87 l' x).f1) with
          | true =>
            go_wp2_with fail
            go_quiet (first | (go_at_call 22; exact quiet_of_drawn (ref01_Same _ _ _ _ _ _ _ (Kd.C_drewN HN.out _) (Kd.C_drewN GN.out _))))
            go_wp2
            go_ret
            exact ⟨false, rfl, (by repeat (first | exact HB.out | apply below_alloc | apply pw_below_drewN)), iff_of_false (by simp) (fun h => by have e := (h.2 x h0 hlt).f1; rw [e] at hq1; simp at hq1)⟩
          | false =>
            cases hq2 : ((rd_T87 l x).f2 != (rd_T87 l' x).f2) with
            | true =>
              go_wp2_with fail
              go_quiet (first | (go_at_call 22; exact quiet_of_drawn (ref01_Same _ _ _ _ _ _ _ (Kd.C_drewN HN.out _) (Kd.C_drewN GN.out _))))
              go_wp2
              go_ret
              exact ⟨false, rfl, (by repeat (first | exact HB.out | apply below_alloc | apply pw_below_drewN)), iff_of_false (by simp) (fun h => by have e := (h.2 x h0 hlt).f2; rw [e] at hq2; simp at hq2)⟩
            | false =>
              go_wp2_with fail
              go_quiet (first | (go_at_call 22; exact quiet_of_drawn (ref01_Same _ _ _ _ _ _ _ (Kd.C_drewN HN.out _) (Kd.C_drewN GN.out _))))
              go_wp2
              go_roundw
              case rel => exact ⟨x + 1, by go_num, by omega, by omega, ⟨by repeat (first | exact HB.out | apply below_alloc | apply pw_below_drewN)⟩, ⟨fun j h1 h2 => if e : j = x then by rw [e]; exact ⟨hq0, by simpa using hq1, by simpa using hq2⟩ else HA.out j h1 (by omega)⟩⟩
              case measure => simp [intOf]; omega
      · go_wp2
        go_ret
        exact ⟨true, rfl, HB.out, iff_of_true rfl ⟨HE.out, fun y h1 h2 => HA.out y h1 (by omega)⟩⟩

end Go.Proofs.Ytophfoenaekfjaa

