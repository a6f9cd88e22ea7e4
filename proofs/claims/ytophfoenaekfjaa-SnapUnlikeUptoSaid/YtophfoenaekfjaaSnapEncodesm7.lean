/- Parts of the proof of SnapEncodes: The document's Decode. The chapter's example. The reference's Same, of entries and of leases; no condition. -/
import Derived.Test.YtophfoenaekfjaaSnapEncodesm6
import Derived.Test.YtophfoenaekfjaaSnapEncodesm4
import Derived.Outline
import Derived.Deep.CutBlock
import Derived.Deep.CutRange
import Derived.Deep.DeepCutAuto
namespace Go.Proofs.Ytophfoenaekfjaa
open Go.RowKit Go.Proofs.YtophfoenaekfjaaW.PrintWords Go.Proofs.YtophfoenaekfjaaW.PrintLast Go.Proofs.YtophfoenaekfjaaW.PrintMore Go.Proofs.Ytophfoenaekfjaa.PSnapEncodes
set_option linter.unusedVariables false
set_option linter.unusedSimpArgs false
set_option maxHeartbeats 4000000 in
set_option maxRecDepth 100000 in
theorem ref10_Decode (A : Option Addr) (c : Nat) (l : List Int) (w : World) (hr : CB w A l) (hc : l.length ≤ c) (hw : wfB l) (hL : l.length ≤ 137438953472) :
    Calls Try.prog 25 #[.slice A l.length c] w (PostDe w ((dparse l).ok' l) (dparse l)) := by
  have HW := Aside0.mk hw
  obtain ⟨wa, hwa⟩ : ∃ wa, wa = w.alloc (.cells #[.int .i64 0, .slice none 0 0, .slice none 0 0, .slice none 0 0] 26) := ⟨_, rfl⟩
  obtain ⟨wb, hwb⟩ : ∃ wb, wb = wa.alloc (.cells #[.int .i64 0, .slice none 0 0, .slice none 0 0, .slice none 0 0] 26) := ⟨_, rfl⟩
  obtain ⟨gz, hgz⟩ : ∃ gz, gz = w.heap.size := ⟨_, rfl⟩
  obtain ⟨ga, hga⟩ : ∃ ga, ga = wa.heap.size := ⟨_, rfl⟩
  have HZ := Aside0.mk (show wa.heap[gz]? = some (.cells #[.int .i64 0, .slice none 0 0, .slice none 0 0, .slice none 0 0] 26 (0, 0)) by rw [hwa, hgz]; exact blk_new _ _)
  have HAb := Aside0.mk (show wb.heap[ga]? = some (.cells #[.int .i64 0, .slice none 0 0, .slice none 0 0, .slice none 0 0] 26 (0, 0)) by rw [hwb, hga]; exact blk_new _ _)
  have HBa := Aside0.mk (show Below w.heap.size w wa by rw [hwa]; exact below_alloc (Below.refl _ _) _)
  have HBb := Aside0.mk (show Below wa.heap.size wa wb by rw [hwb]; exact below_alloc (Below.refl _ _) _)
  have HRa := Aside0.mk (Kd.C_below hr HBa.out)
  have HRb := Aside0.mk (Kd.C_below HRa.out HBb.out)
  have HGA := Aside0.mk (show wa.heap.size ≤ ga by omega)
  have hs1 : wa.heap.size = w.heap.size + 1 := by rw [hwa]; simp
  have e1 : gz + 1 = ga := by omega
  have HGZ0 := Aside0.mk hgz
  clear hr hw hs1 hga
  go_enter Try.func25, Try.ntmps25
  go_wp2_with fail
  rw [← hgz, e1, ← hwa, ← hwb]
  clear e1 hwa hwb hgz
  refine (ref10_num A c l (0, false) wb HRb.out hc HW.out ⟨by omega, by omega⟩ hL).mono ?_
  rintro e w1 hp
  obtain ⟨he, hb⟩ := hp.out
  subst he
  obtain ⟨b1, hb1⟩ : ∃ b, (dnum l (0, false)).1 = b := ⟨_, rfl⟩
  obtain ⟨s1, hs1⟩ : ∃ b, (dnum l (0, false)).2 = b := ⟨_, rfl⟩
  have hp1 := dnum_pl HW.out (s := (0, false)) ⟨by omega, by omega⟩
  rw [hs1] at hp1
  rw [hb1, hs1]
  have HE1 := Aside0.mk hb1
  have HE2 := Aside0.mk hs1
  have HA1 := Aside0.mk (blk_below HAb.out hb)
  have HB1 := Aside0.mk (below_step HBb.out hb)
  clear hb hb1 hs1
  obtain ⟨a1, bad1⟩ := s1
  obtain ⟨g5, hg5⟩ : ∃ g, g = w1.heap.size := ⟨_, rfl⟩
  obtain ⟨wc, hwc⟩ : ∃ wc, wc = w1.alloc (.cells #[.slice A l.length c, .int .i64 a1, .bool bad1] 118) := ⟨_, rfl⟩
  obtain ⟨wd, hwd⟩ : ∃ wd, wd = wc.setCell ⟨ga, 0, none⟩ (.int .i64 b1) := ⟨_, rfl⟩
  have HBc := Aside0.mk (show Below w1.heap.size w1 wc by rw [hwc]; exact below_alloc (Below.refl _ _) _)
  have HSc := Aside0.mk (show wc.heap[g5]? = some (.cells #[.slice A l.length c, .int .i64 a1, .bool bad1] 118 (0, 0)) by rw [hwc, hg5]; exact blk_new _ _)
  have HAc := Aside0.mk (blk_below HA1.out HBc.out)
  have HG5 := Aside0.mk (show wa.heap.size ≤ g5 by have := HB1.out.size; omega)
  have HI := Aside0.mk (show InvD wa g5 ga A c l b1 (a1, bad1) (.slice none 0 0) (.slice none 0 0) (.slice none 0 0) [] [] [] wd by
    subst hwd
    exact { sb := blk_far HSc.out (p := ⟨ga, 0, none⟩) (blk_ne HSc.out HAc.out (by decide)) _
            ab := (blk_set HAc.out 0 _).trans rfl
            r1 := Kd.S_nil _ _ _ _ _
            r2 := Kd.S_nil _ _ _ _ _
            r3 := Kd.S_nil _ _ _ _ _
            below := below_set (below_step HB1.out HBc.out) HGA.out
            h5 := HG5.out
            ha := HGA.out
            pl := hp1 })
  have h0a : (w1.alloc (.cells #[.slice A l.length c, .int .i64 a1, .bool bad1] 118)).cell? ⟨ga, 0, none⟩ = some (.int .i64 0) := by rw [← hwc]; exact (blk_cell HAc.out 0).trans rfl
  have h0f : (w1.alloc (.cells #[.slice A l.length c, .int .i64 a1, .bool bad1] 118)).frozen? ⟨ga, 0, none⟩ = false := by rw [← hwc]; exact blk_frozen HAc.out 0
  have h50 : ((w1.alloc (.cells #[.slice A l.length c, .int .i64 a1, .bool bad1] 118)).setCell ⟨ga, 0, none⟩ (.int .i64 b1)).cell? ⟨w1.heap.size, 0, none⟩ = some (.slice A l.length c) := by rw [← hwc, ← hwd, ← hg5]; exact (blk_cell HI.out.sb 0).trans rfl
  have h51 : ((w1.alloc (.cells #[.slice A l.length c, .int .i64 a1, .bool bad1] 118)).setCell ⟨ga, 0, none⟩ (.int .i64 b1)).cell? ⟨w1.heap.size, 1, none⟩ = some (.int .i64 a1) := by rw [← hwc, ← hwd, ← hg5]; exact (blk_cell HI.out.sb 1).trans rfl
  have h52 : ((w1.alloc (.cells #[.slice A l.length c, .int .i64 a1, .bool bad1] 118)).setCell ⟨ga, 0, none⟩ (.int .i64 b1)).cell? ⟨w1.heap.size, 2, none⟩ = some (.bool bad1) := by rw [← hwc, ← hwd, ← hg5]; exact (blk_cell HI.out.sb 2).trans rfl
  have HG50 := Aside0.mk hg5
  go_wp2_with fail
  rw [← hwc, ← hwd]
  try rw [← hg5]
  clear h0a h0f h50 h51 h52 hwc hwd hg5

  refine (ref10_num A c l (a1, bad1) wd (Kd.C_below HRa.out HI.out.below) hc HW.out HI.out.pl hL).mono ?_
  rintro e w2 hp
  obtain ⟨he, hb⟩ := hp.out
  subst he
  obtain ⟨n2, hn2⟩ : ∃ b, (dnum l (a1, bad1)).1 = b := ⟨_, rfl⟩
  obtain ⟨s2, hs2⟩ : ∃ b, (dnum l (a1, bad1)).2 = b := ⟨_, rfl⟩
  have hp2 := dnum_pl HW.out (s := (a1, bad1)) HI.out.pl
  have hnn := dnum_n (s := (a1, bad1)) HW.out
  rw [hs2] at hp2
  rw [hn2] at hnn
  rw [hn2, hs2]
  have HN2 := Aside0.mk hn2
  have HSt2 := Aside0.mk hs2
  have HNN2 := Aside0.mk hnn
  have HIa := Aside0.mk (HI.out.later hb)
  obtain ⟨a2, bad2⟩ := s2
  have HI2 := Aside0.mk (HIa.out.move (s' := (a2, bad2)) hp2)
  obtain ⟨W2, hW2⟩ : ∃ W, W = (((w2.setCell ⟨g5, 0, none⟩ (.slice A l.length c)).setCell ⟨g5, 1, none⟩ (.int .i64 a2)).setCell ⟨g5, 2, none⟩ (.bool bad2)) := ⟨_, rfl⟩
  simp only [← hW2] at HI2
  have h50 : w2.cell? ⟨g5, 0, none⟩ = some (.slice A l.length c) := (blk_cell HIa.out.sb 0).trans rfl
  have h51 := (blk_cell HIa.out.sb 1).trans rfl
  have h52 := (blk_cell HIa.out.sb 2).trans rfl
  have h5f0 := blk_frozen HIa.out.sb 0
  have h5f1 := blk_frozen HIa.out.sb 1
  have h5f2 := blk_frozen HIa.out.sb 2
  clear hb hn2 hs2 hp2 hnn

  go_upto_block 0 with fail
  clear HIa h50 h51 h52 h5f0 h5f1 h5f2
  go_cut [8] (fun _ wx => ∃ v, Aside0 (InvD wa g5 ga A c l b1 (rep (dstep1 l) n2.toNat ((a2, bad2), [])).1 v (.slice none 0 0) (.slice none 0 0) (rep (dstep1 l) n2.toNat ((a2, bad2), [])).2 [] [] wx))
  case first =>
    rw [← hW2]
    clear hW2
    go_wp2_with fail
    go_loopw [8] (fun vi wr => ∃ (x : Int) (s' : Int × Bool) (v : Value) (zs : List S72), vi = .int .i64 x ∧ 0 ≤ x ∧ x ≤ n2 ∧ Aside0 (rep (dstep1 l) (n2 - x).toNat (s', zs) = rep (dstep1 l) n2.toNat ((a2, bad2), [])) ∧ Aside0 ((zs.length : Int) = x) ∧ Aside0 (InvD wa g5 ga A c l b1 s' v (.slice none 0 0) (.slice none 0 0) zs [] [] wr)) (fun vi _ => n2.toNat - (intOf vi).toNat)
    case atStart => exact ⟨0, (a2, bad2), _, [], rfl, by omega, HNN2.out.1, ⟨by simp⟩, ⟨by simp⟩, HI2⟩
    case round =>
      clear HI2
      obtain ⟨x, s', v, zs, rfl, h0, h1, HA, HZ, HI⟩ := hrel
      obtain ⟨a0, d0⟩ := s'
      have h50 : wr.cell? ⟨g5, 0, none⟩ = some (.slice A l.length c) := (blk_cell HI.out.sb 0).trans rfl
      have h51 : wr.cell? ⟨g5, 1, none⟩ = some (.int .i64 a0) := (blk_cell HI.out.sb 1).trans rfl
      have h52 : wr.cell? ⟨g5, 2, none⟩ = some (.bool d0) := (blk_cell HI.out.sb 2).trans rfl
      cases hq : decide (x < n2) with
      | false =>
        have HX := Aside0.mk (show (n2 - x).toNat = 0 by have := of_decide_eq_false hq; omega)
        go_wp2_with fail
        go_meet
        case rel => exact ⟨v, ⟨by have h := HA.out; rw [HX.out] at h; rw [← h]; exact HI.out⟩⟩
      | true =>
        cases d0 with
        | true =>
          go_wp2_with fail
          go_meet
          case rel => exact ⟨v, ⟨by have h := HA.out; rw [rep_bad _ _ _ rfl] at h; rw [← h]; exact HI.out⟩⟩
        | false =>
          have hx0 := of_decide_eq_true hq
          have HX := Aside0.mk (show (n2 - x).toNat = (n2 - (x + 1)).toNat + 1 by omega)
          have hn9 : n2 ≤ 2147483647 := HNN2.out.2
          have hzl : zs.length ≤ 2147483647 := by have := HZ.out; have := HNN2.out.2; omega
          obtain ⟨Ao, co, eo⟩ := Kd.S_slice HI.out.r1
          subst eo
          go_wp2_with fail
          have HJ0 := HI
          have hpl0 := HI.out.pl
          refine (ref10_get A c l (a0, false) wr (Kd.C_below HRa.out HJ0.out.below) hc HW.out hpl0 hL).mono ?_
          rintro e x1 hp
          obtain ⟨u, rfl, ho, hb⟩ := hp.out
          obtain ⟨p1, hpp⟩ : ∃ b, (dget l (a0, false)).1 = b := ⟨_, rfl⟩
          obtain ⟨s1', hss⟩ : ∃ b, (dget l (a0, false)).2 = b := ⟨_, rfl⟩
          have hpl1 := dget_pl HW.out (s := (a0, false)) hpl0
          rw [hss] at hpl1
          rw [hpp] at ho
          rw [hss]
          obtain ⟨A1, c1, rfl, hcc, hrr⟩ := ho.reads
          clear hcc hrr
          have HE1 := Aside0.mk hpp
          have HF1 := Aside0.mk hss
          clear hpp hss
          obtain ⟨a1, d1⟩ := s1'
          obtain ⟨gt1, hgt1⟩ : ∃ g, g = x1.heap.size := ⟨_, rfl⟩
          obtain ⟨X1, hX1⟩ : ∃ X, X = x1.alloc (.cells #[.slice A l.length c, .int .i64 a1, .bool d1] 118) := ⟨_, rfl⟩
          have HBX : Below x1.heap.size x1 X1 := by rw [hX1]; exact below_alloc (Below.refl _ _) _
          have HGT1 := Aside0.mk (show X1.heap[gt1]? = some (.cells #[.slice A l.length c, .int .i64 a1, .bool d1] 118 (0, 0)) by rw [hX1, hgt1]; exact blk_new _ _)
          have HV1 := Aside0.mk (show Below wr.heap.size wr X1 from below_step hb HBX)
          have HJ1 := Aside0.mk ((HJ0.out.later hb).later HBX)
          have HO1 := Aside0.mk (OB.lower (ho.below HBX) (Nat.le_refl wr.heap.size))
          clear ho
          clear hb HBX h50 h51 h52
          have h60 : (x1.alloc (.cells #[.slice A l.length c, .int .i64 a1, .bool d1] 118)).cell? ⟨x1.heap.size, 0, none⟩ = some (.slice A l.length c) := by rw [← hX1, ← hgt1]; exact (blk_cell HGT1.out 0).trans rfl
          have h61 : (x1.alloc (.cells #[.slice A l.length c, .int .i64 a1, .bool d1] 118)).cell? ⟨x1.heap.size, 1, none⟩ = some (.int .i64 a1) := by rw [← hX1, ← hgt1]; exact (blk_cell HGT1.out 1).trans rfl
          have h62 : (x1.alloc (.cells #[.slice A l.length c, .int .i64 a1, .bool d1] 118)).cell? ⟨x1.heap.size, 2, none⟩ = some (.bool d1) := by rw [← hX1, ← hgt1]; exact (blk_cell HGT1.out 2).trans rfl
          go_wp2_with fail
          rw [← hX1]
          try rw [← hgt1]
          clear h60 h61 h62 hX1 hgt1
          refine (ref10_get A c l (a1, d1) X1 (Kd.C_below HRa.out HJ1.out.below) hc HW.out hpl1 hL).mono ?_
          rintro e x2 hp
          obtain ⟨u, rfl, ho, hb⟩ := hp.out
          obtain ⟨p2, hpp⟩ : ∃ b, (dget l (a1, d1)).1 = b := ⟨_, rfl⟩
          obtain ⟨s2', hss⟩ : ∃ b, (dget l (a1, d1)).2 = b := ⟨_, rfl⟩
          have hpl2 := dget_pl HW.out (s := (a1, d1)) hpl1
          rw [hss] at hpl2
          rw [hpp] at ho
          rw [hss]
          obtain ⟨A2, c2, rfl, hcc, hrr⟩ := ho.reads
          clear hcc hrr
          have HE2 := Aside0.mk hpp
          have HF2 := Aside0.mk hss
          clear hpp hss
          obtain ⟨a2, d2⟩ := s2'
          obtain ⟨gt2, hgt2⟩ : ∃ g, g = x2.heap.size := ⟨_, rfl⟩
          obtain ⟨X2, hX2⟩ : ∃ X, X = x2.alloc (.cells #[.slice A l.length c, .int .i64 a2, .bool d2] 118) := ⟨_, rfl⟩
          have HBX : Below x2.heap.size x2 X2 := by rw [hX2]; exact below_alloc (Below.refl _ _) _
          have HGT2 := Aside0.mk (show X2.heap[gt2]? = some (.cells #[.slice A l.length c, .int .i64 a2, .bool d2] 118 (0, 0)) by rw [hX2, hgt2]; exact blk_new _ _)
          have HV2 := Aside0.mk (show Below wr.heap.size wr X2 from below_step (below_step HV1.out hb) HBX)
          have HJ2 := Aside0.mk ((HJ1.out.later hb).later HBX)
          replace HO1 := Aside0.mk ((HO1.out.below hb).below HBX)
          have HO2 := Aside0.mk (OB.lower (ho.below HBX) HV1.out.size)
          clear ho
          clear hb HBX
          have hx : (x2.alloc (.cells #[.slice A l.length c, .int .i64 a2, .bool d2] 118)).cell? ⟨ga, 1, none⟩ = some (.slice Ao zs.length co) := by rw [← hX2]; exact (blk_cell HJ2.out.ab 1).trans rfl
          have HSZ := Aside0.mk (show X2.heap.size = x2.heap.size + 1 by rw [hX2]; simp)
          go_wp2_with (first | ((with_reducible refine gate_builtin (b := .append) (xs := #[.tmp 64, .tmp 68]) rfl ?_); at_builtin; rw [← hX2]; refine Kd.S_append k72 (w0 := wa) (W := X2) wa.heap.size rfl (.tmp 64) (.tmp 68) 22 72 (.agg #[.slice none 0 0, .slice none 0 0]) 48 rfl Try.underlying22 info72 rfl (by decide) (by omega) (.slice Ao zs.length co) zs (⟨p1, p2⟩ : S72) [.slice A1 p1.length c1, .slice A2 p2.length c2] (fun _ => True) (fun k => wr.heap.size ≤ k) rfl (by rw [HSZ.out]; rfl) ?aP ?aK (fun _ _ => trivial) ?aO ?aB ?aS ?aL ?_; (case aP => exact k72_mkM _ _ _ _ (Kd.R_mono (OB.at_ HO1.out HI.out.size) (fun _ hk => hk)) (Kd.R_mono (OB.at_ HO2.out HI.out.size) (fun _ hk => hk))); (case aK => exact (fun k hk => ⟨trivial, fun e => by have := Kd.S_lt HI.out.r1 k e.symm; omega⟩)); (case aO => exact Kd.S_mono (Kd.S_old HI.out.r1 HV2.out) (fun k hk => ⟨trivial, by omega⟩)); (case aB => exact HJ2.out.below); (case aS => exact HJ2.out.size); (case aL => omega); intro v4 w4 ho hb hg hat; obtain ⟨ys, hys⟩ : ∃ ys, zs ++ [(⟨p1, p2⟩ : S72)] = ys := ⟨_, rfl⟩; rw [hys] at ho; have HY := Aside0.mk hys; clear hys; obtain ⟨A4, c4, rfl⟩ := Kd.S_slice ho; have HI4 := Aside0.mk (HJ2.out.put1 hg ho); have HT4 := Aside0.mk (HJ2.out.other1 (v' := .slice A4 ys.length c4) hg HGT2.out); have hx4 := (blk_cell (blk_grown HJ2.out.ab hg (Kd.S_ne HJ2.out.r1 HJ2.out.ab (by decide))) 1).trans rfl; have hfx4 := blk_frozen (blk_grown HJ2.out.ab hg (Kd.S_ne HJ2.out.r1 HJ2.out.ab (by decide))) 1; rw [hgt2] at HT4; have h70 := (blk_cell HT4.out 0).trans rfl; have h71 := (blk_cell HT4.out 1).trans rfl; have h72 := (blk_cell HT4.out 2).trans rfl; have h80 := (blk_cell HI4.out.sb 0).trans rfl; have h81 := (blk_cell HI4.out.sb 1).trans rfl; have h82 := (blk_cell HI4.out.sb 2).trans rfl; have h8f0 := blk_frozen HI4.out.sb 0; have h8f1 := blk_frozen HI4.out.sb 1; have h8f2 := blk_frozen HI4.out.sb 2; clear ho hb hg hat))
          go_roundw
          case rel => exact ⟨x + 1, (a2, d2), _, _, by go_num, by omega, by omega, ⟨by have h := HA.out; rw [HX.out, rep_go _ _ _ rfl] at h; rw [← h]; simp only [dstep1, HE1.out, HF1.out, HE2.out, HF2.out, HY.out]⟩, ⟨by have := HZ.out; rw [← HY.out, List.length_append]; simp; omega⟩, ⟨HI4.out.move (s' := (a2, d2)) hpl2⟩⟩
          case measure => simp [intOf]; omega
  case rest =>
    obtain ⟨v1, HIb⟩ := hcut
    obtain ⟨es, hxs⟩ : ∃ b, (rep (dstep1 l) n2.toNat ((a2, bad2), [])).2 = b := ⟨_, rfl⟩
    obtain ⟨t1, hts⟩ : ∃ b, (rep (dstep1 l) n2.toNat ((a2, bad2), [])).1 = b := ⟨_, rfl⟩
    rw [hxs, hts] at HIb
    have HXs1 := Aside0.mk hxs
    have HTs1 := Aside0.mk hts
    have HLn1 := Aside0.mk (show es.length ≤ 2147483647 by have h1 := rep_len1 dstep1 l (fun x => by simp [dstep1]) n2.toNat ((a2, bad2), []); have h2 := HNN2.out; rw [hxs] at h1; simp only [List.length_nil] at h1; omega)
    obtain ⟨b3_, d3_⟩ := t1
    clear hxs hts
    have h50 : wc.cell? ⟨g5, 0, none⟩ = some (.slice A l.length c) := (blk_cell HIb.out.sb 0).trans rfl
    have h51 : wc.cell? ⟨g5, 1, none⟩ = some (.int .i64 b3_) := (blk_cell HIb.out.sb 1).trans rfl
    have h52 : wc.cell? ⟨g5, 2, none⟩ = some (.bool d3_) := (blk_cell HIb.out.sb 2).trans rfl
    go_wp2_with fail
    clear h50 h51 h52
    refine (ref10_num A c l (b3_, d3_) wc (Kd.C_below HRa.out HIb.out.below) hc HW.out HIb.out.pl hL).mono ?_
    rintro e w3 hp
    obtain ⟨he, hb⟩ := hp.out
    subst he
    obtain ⟨n3, hn3⟩ : ∃ b, (dnum l (b3_, d3_)).1 = b := ⟨_, rfl⟩
    obtain ⟨s3, hs3⟩ : ∃ b, (dnum l (b3_, d3_)).2 = b := ⟨_, rfl⟩
    have hp3 := dnum_pl HW.out (s := (b3_, d3_)) HIb.out.pl
    have hnn := dnum_n (s := (b3_, d3_)) HW.out
    rw [hs3] at hp3
    rw [hn3] at hnn
    rw [hn3, hs3]
    have HN3 := Aside0.mk hn3
    have HSt3 := Aside0.mk hs3
    have HNN3 := Aside0.mk hnn
    have HIa := Aside0.mk (HIb.out.later hb)
    obtain ⟨a3, bad3⟩ := s3
    have HI3 := Aside0.mk (HIa.out.move (s' := (a3, bad3)) hp3)
    obtain ⟨W3, hW3⟩ : ∃ W, W = (((w3.setCell ⟨g5, 0, none⟩ (.slice A l.length c)).setCell ⟨g5, 1, none⟩ (.int .i64 a3)).setCell ⟨g5, 2, none⟩ (.bool bad3)) := ⟨_, rfl⟩
    simp only [← hW3] at HI3
    have h50 : w3.cell? ⟨g5, 0, none⟩ = some (.slice A l.length c) := (blk_cell HIa.out.sb 0).trans rfl
    have h51 := (blk_cell HIa.out.sb 1).trans rfl
    have h52 := (blk_cell HIa.out.sb 2).trans rfl
    have h5f0 := blk_frozen HIa.out.sb 0
    have h5f1 := blk_frozen HIa.out.sb 1
    have h5f2 := blk_frozen HIa.out.sb 2
    clear hb hn3 hs3 hp3 hnn
    go_upto_block 2 with fail
    clear HIa h50 h51 h52 h5f0 h5f1 h5f2
    go_cut [13] (fun _ wx => ∃ v, Aside0 (InvD wa g5 ga A c l b1 (rep (dstep2 l) n3.toNat ((a3, bad3), [])).1 v1 v (.slice none 0 0) es (rep (dstep2 l) n3.toNat ((a3, bad3), [])).2 [] wx))
    case first =>
      rw [← hW3]
      clear hW3
      go_wp2_with fail
      go_loopw [13] (fun vi wr => ∃ (x : Int) (s' : Int × Bool) (v : Value) (zs : List S87), vi = .int .i64 x ∧ 0 ≤ x ∧ x ≤ n3 ∧ Aside0 (rep (dstep2 l) (n3 - x).toNat (s', zs) = rep (dstep2 l) n3.toNat ((a3, bad3), [])) ∧ Aside0 ((zs.length : Int) = x) ∧ Aside0 (InvD wa g5 ga A c l b1 s' v1 v (.slice none 0 0) es zs [] wr)) (fun vi _ => n3.toNat - (intOf vi).toNat)
      case atStart => exact ⟨0, (a3, bad3), _, [], rfl, by omega, HNN3.out.1, ⟨by simp⟩, ⟨by simp⟩, HI3⟩
      case round =>
        clear HI3
        obtain ⟨x, s', v, zs, rfl, h0, h1, HA, HZ, HI⟩ := hrel
        obtain ⟨a0, d0⟩ := s'
        have h50 : wr.cell? ⟨g5, 0, none⟩ = some (.slice A l.length c) := (blk_cell HI.out.sb 0).trans rfl
        have h51 : wr.cell? ⟨g5, 1, none⟩ = some (.int .i64 a0) := (blk_cell HI.out.sb 1).trans rfl
        have h52 : wr.cell? ⟨g5, 2, none⟩ = some (.bool d0) := (blk_cell HI.out.sb 2).trans rfl
        cases hq : decide (x < n3) with
        | false =>
          have HX := Aside0.mk (show (n3 - x).toNat = 0 by have := of_decide_eq_false hq; omega)
          go_wp2_with fail
          go_meet
          case rel => exact ⟨v, ⟨by have h := HA.out; rw [HX.out] at h; rw [← h]; exact HI.out⟩⟩
        | true =>
          cases d0 with
          | true =>
            go_wp2_with fail
            go_meet
            case rel => exact ⟨v, ⟨by have h := HA.out; rw [rep_bad _ _ _ rfl] at h; rw [← h]; exact HI.out⟩⟩
          | false =>
            have hx0 := of_decide_eq_true hq
            have HX := Aside0.mk (show (n3 - x).toNat = (n3 - (x + 1)).toNat + 1 by omega)
            have hn9 : n3 ≤ 2147483647 := HNN3.out.2
            have hzl : zs.length ≤ 2147483647 := by have := HZ.out; have := HNN3.out.2; omega
            obtain ⟨Ao, co, eo⟩ := Kd.S_slice HI.out.r2
            subst eo
            go_wp2_with fail
            have HJ0 := HI
            have hpl0 := HI.out.pl
            refine (ref10_get A c l (a0, false) wr (Kd.C_below HRa.out HJ0.out.below) hc HW.out hpl0 hL).mono ?_
            rintro e x1 hp
            obtain ⟨u, rfl, ho, hb⟩ := hp.out
            obtain ⟨p1, hpp⟩ : ∃ b, (dget l (a0, false)).1 = b := ⟨_, rfl⟩
            obtain ⟨s1', hss⟩ : ∃ b, (dget l (a0, false)).2 = b := ⟨_, rfl⟩
            have hpl1 := dget_pl HW.out (s := (a0, false)) hpl0
            rw [hss] at hpl1
            rw [hpp] at ho
            rw [hss]
            obtain ⟨A1, c1, rfl, hcc, hrr⟩ := ho.reads
            clear hcc hrr
            have HE1 := Aside0.mk hpp
            have HF1 := Aside0.mk hss
            clear hpp hss
            obtain ⟨a1, d1⟩ := s1'
            obtain ⟨gt1, hgt1⟩ : ∃ g, g = x1.heap.size := ⟨_, rfl⟩
            obtain ⟨X1, hX1⟩ : ∃ X, X = x1.alloc (.cells #[.slice A l.length c, .int .i64 a1, .bool d1] 118) := ⟨_, rfl⟩
            have HBX : Below x1.heap.size x1 X1 := by rw [hX1]; exact below_alloc (Below.refl _ _) _
            have HGT1 := Aside0.mk (show X1.heap[gt1]? = some (.cells #[.slice A l.length c, .int .i64 a1, .bool d1] 118 (0, 0)) by rw [hX1, hgt1]; exact blk_new _ _)
            have HV1 := Aside0.mk (show Below wr.heap.size wr X1 from below_step hb HBX)
            have HJ1 := Aside0.mk ((HJ0.out.later hb).later HBX)
            have HO1 := Aside0.mk (OB.lower (ho.below HBX) (Nat.le_refl wr.heap.size))
            clear ho
            clear hb HBX h50 h51 h52
            have h60 : (x1.alloc (.cells #[.slice A l.length c, .int .i64 a1, .bool d1] 118)).cell? ⟨x1.heap.size, 0, none⟩ = some (.slice A l.length c) := by rw [← hX1, ← hgt1]; exact (blk_cell HGT1.out 0).trans rfl
            have h61 : (x1.alloc (.cells #[.slice A l.length c, .int .i64 a1, .bool d1] 118)).cell? ⟨x1.heap.size, 1, none⟩ = some (.int .i64 a1) := by rw [← hX1, ← hgt1]; exact (blk_cell HGT1.out 1).trans rfl
            have h62 : (x1.alloc (.cells #[.slice A l.length c, .int .i64 a1, .bool d1] 118)).cell? ⟨x1.heap.size, 2, none⟩ = some (.bool d1) := by rw [← hX1, ← hgt1]; exact (blk_cell HGT1.out 2).trans rfl
            go_wp2_with fail
            rw [← hX1]
            try rw [← hgt1]
            clear h60 h61 h62 hX1 hgt1
            refine (ref10_num A c l (a1, d1) X1 (Kd.C_below HRa.out HJ1.out.below) hc HW.out hpl1 hL).mono ?_
            rintro e x2 hp
            obtain ⟨he, hb⟩ := hp.out
            subst he
            obtain ⟨p2, hpp⟩ : ∃ b, (dnum l (a1, d1)).1 = b := ⟨_, rfl⟩
            obtain ⟨s2', hss⟩ : ∃ b, (dnum l (a1, d1)).2 = b := ⟨_, rfl⟩
            have hpl2 := dnum_pl HW.out (s := (a1, d1)) hpl1
            rw [hss] at hpl2
            rw [hpp, hss]
            have HE2 := Aside0.mk hpp
            have HF2 := Aside0.mk hss
            clear hpp hss
            obtain ⟨a2, d2⟩ := s2'
            obtain ⟨gt2, hgt2⟩ : ∃ g, g = x2.heap.size := ⟨_, rfl⟩
            obtain ⟨X2, hX2⟩ : ∃ X, X = x2.alloc (.cells #[.slice A l.length c, .int .i64 a2, .bool d2] 118) := ⟨_, rfl⟩
            have HBX : Below x2.heap.size x2 X2 := by rw [hX2]; exact below_alloc (Below.refl _ _) _
            have HGT2 := Aside0.mk (show X2.heap[gt2]? = some (.cells #[.slice A l.length c, .int .i64 a2, .bool d2] 118 (0, 0)) by rw [hX2, hgt2]; exact blk_new _ _)
            have HV2 := Aside0.mk (show Below wr.heap.size wr X2 from below_step (below_step HV1.out hb) HBX)
            have HJ2 := Aside0.mk ((HJ1.out.later hb).later HBX)
            replace HO1 := Aside0.mk ((HO1.out.below hb).below HBX)
            clear hb HBX
            have h60 : (x2.alloc (.cells #[.slice A l.length c, .int .i64 a2, .bool d2] 118)).cell? ⟨x2.heap.size, 0, none⟩ = some (.slice A l.length c) := by rw [← hX2, ← hgt2]; exact (blk_cell HGT2.out 0).trans rfl
            have h61 : (x2.alloc (.cells #[.slice A l.length c, .int .i64 a2, .bool d2] 118)).cell? ⟨x2.heap.size, 1, none⟩ = some (.int .i64 a2) := by rw [← hX2, ← hgt2]; exact (blk_cell HGT2.out 1).trans rfl
            have h62 : (x2.alloc (.cells #[.slice A l.length c, .int .i64 a2, .bool d2] 118)).cell? ⟨x2.heap.size, 2, none⟩ = some (.bool d2) := by rw [← hX2, ← hgt2]; exact (blk_cell HGT2.out 2).trans rfl
            go_wp2_with fail
            rw [← hX2]
            try rw [← hgt2]
            clear h60 h61 h62 hX2 hgt2
            refine (ref10_num A c l (a2, d2) X2 (Kd.C_below HRa.out HJ2.out.below) hc HW.out hpl2 hL).mono ?_
            rintro e x3 hp
            obtain ⟨he, hb⟩ := hp.out
            subst he
            obtain ⟨p3, hpp⟩ : ∃ b, (dnum l (a2, d2)).1 = b := ⟨_, rfl⟩
            obtain ⟨s3', hss⟩ : ∃ b, (dnum l (a2, d2)).2 = b := ⟨_, rfl⟩
            have hpl3 := dnum_pl HW.out (s := (a2, d2)) hpl2
            rw [hss] at hpl3
            rw [hpp, hss]
            have HE3 := Aside0.mk hpp
            have HF3 := Aside0.mk hss
            clear hpp hss
            obtain ⟨a3, d3⟩ := s3'
            obtain ⟨gt3, hgt3⟩ : ∃ g, g = x3.heap.size := ⟨_, rfl⟩
            obtain ⟨X3, hX3⟩ : ∃ X, X = x3.alloc (.cells #[.slice A l.length c, .int .i64 a3, .bool d3] 118) := ⟨_, rfl⟩
            have HBX : Below x3.heap.size x3 X3 := by rw [hX3]; exact below_alloc (Below.refl _ _) _
            have HGT3 := Aside0.mk (show X3.heap[gt3]? = some (.cells #[.slice A l.length c, .int .i64 a3, .bool d3] 118 (0, 0)) by rw [hX3, hgt3]; exact blk_new _ _)
            have HV3 := Aside0.mk (show Below wr.heap.size wr X3 from below_step (below_step HV2.out hb) HBX)
            have HJ3 := Aside0.mk ((HJ2.out.later hb).later HBX)
            replace HO1 := Aside0.mk ((HO1.out.below hb).below HBX)
            clear hb HBX
            have hx : (x3.alloc (.cells #[.slice A l.length c, .int .i64 a3, .bool d3] 118)).cell? ⟨ga, 2, none⟩ = some (.slice Ao zs.length co) := by rw [← hX3]; exact (blk_cell HJ3.out.ab 2).trans rfl
            have HSZ := Aside0.mk (show X3.heap.size = x3.heap.size + 1 by rw [hX3]; simp)
            go_wp2_with (first | ((with_reducible refine gate_builtin (b := .append) (xs := #[.tmp 103, .tmp 108]) rfl ?_); at_builtin; rw [← hX3]; refine Kd.S_append k87 (w0 := wa) (W := X3) wa.heap.size rfl (.tmp 103) (.tmp 108) 23 87 (.agg #[.slice none 0 0, .int .i64 0, .int .i64 0]) 40 rfl Try.underlying23 info87 rfl (by decide) (by omega) (.slice Ao zs.length co) zs (⟨p1, p2, p3⟩ : S87) [.slice A1 p1.length c1, .int .i64 p2, .int .i64 p3] (fun _ => True) (fun k => wr.heap.size ≤ k) rfl (by rw [HSZ.out]; rfl) ?aP ?aK (fun _ _ => trivial) ?aO ?aB ?aS ?aL ?_; (case aP => exact k87_mkM _ _ _ _ (Kd.R_mono (OB.at_ HO1.out HI.out.size) (fun _ hk => hk))); (case aK => exact (fun k hk => ⟨trivial, fun e => by have := Kd.S_lt HI.out.r2 k e.symm; omega⟩)); (case aO => exact Kd.S_mono (Kd.S_old HI.out.r2 HV3.out) (fun k hk => ⟨trivial, by omega⟩)); (case aB => exact HJ3.out.below); (case aS => exact HJ3.out.size); (case aL => omega); intro v4 w4 ho hb hg hat; obtain ⟨ys, hys⟩ : ∃ ys, zs ++ [(⟨p1, p2, p3⟩ : S87)] = ys := ⟨_, rfl⟩; rw [hys] at ho; have HY := Aside0.mk hys; clear hys; obtain ⟨A4, c4, rfl⟩ := Kd.S_slice ho; have HI4 := Aside0.mk (HJ3.out.put2 hg ho); have HT4 := Aside0.mk (HJ3.out.other2 (v' := .slice A4 ys.length c4) hg HGT3.out); have hx4 := (blk_cell (blk_grown HJ3.out.ab hg (Kd.S_ne HJ3.out.r2 HJ3.out.ab (by decide))) 2).trans rfl; have hfx4 := blk_frozen (blk_grown HJ3.out.ab hg (Kd.S_ne HJ3.out.r2 HJ3.out.ab (by decide))) 2; rw [hgt3] at HT4; have h70 := (blk_cell HT4.out 0).trans rfl; have h71 := (blk_cell HT4.out 1).trans rfl; have h72 := (blk_cell HT4.out 2).trans rfl; have h80 := (blk_cell HI4.out.sb 0).trans rfl; have h81 := (blk_cell HI4.out.sb 1).trans rfl; have h82 := (blk_cell HI4.out.sb 2).trans rfl; have h8f0 := blk_frozen HI4.out.sb 0; have h8f1 := blk_frozen HI4.out.sb 1; have h8f2 := blk_frozen HI4.out.sb 2; clear ho hb hg hat))
            go_roundw
            case rel => exact ⟨x + 1, (a3, d3), _, _, by go_num, by omega, by omega, ⟨by have h := HA.out; rw [HX.out, rep_go _ _ _ rfl] at h; rw [← h]; simp only [dstep2, HE1.out, HF1.out, HE2.out, HF2.out, HE3.out, HF3.out, HY.out]⟩, ⟨by have := HZ.out; rw [← HY.out, List.length_append]; simp; omega⟩, ⟨HI4.out.move (s' := (a3, d3)) hpl3⟩⟩
            case measure => simp [intOf]; omega
    case rest =>
      obtain ⟨v2, HIb⟩ := hcut
      obtain ⟨ls, hxs⟩ : ∃ b, (rep (dstep2 l) n3.toNat ((a3, bad3), [])).2 = b := ⟨_, rfl⟩
      obtain ⟨t2, hts⟩ : ∃ b, (rep (dstep2 l) n3.toNat ((a3, bad3), [])).1 = b := ⟨_, rfl⟩
      rw [hxs, hts] at HIb
      have HXs2 := Aside0.mk hxs
      have HTs2 := Aside0.mk hts
      have HLn2 := Aside0.mk (show ls.length ≤ 2147483647 by have h1 := rep_len1 dstep2 l (fun x => by simp [dstep2]) n3.toNat ((a3, bad3), []); have h2 := HNN3.out; rw [hxs] at h1; simp only [List.length_nil] at h1; omega)
      obtain ⟨b4_, d4_⟩ := t2
      clear hxs hts
      have h50 : wc.cell? ⟨g5, 0, none⟩ = some (.slice A l.length c) := (blk_cell HIb.out.sb 0).trans rfl
      have h51 : wc.cell? ⟨g5, 1, none⟩ = some (.int .i64 b4_) := (blk_cell HIb.out.sb 1).trans rfl
      have h52 : wc.cell? ⟨g5, 2, none⟩ = some (.bool d4_) := (blk_cell HIb.out.sb 2).trans rfl
      go_wp2_with fail
      clear h50 h51 h52
      refine (ref10_num A c l (b4_, d4_) wc (Kd.C_below HRa.out HIb.out.below) hc HW.out HIb.out.pl hL).mono ?_
      rintro e w4 hp
      obtain ⟨he, hb⟩ := hp.out
      subst he
      obtain ⟨n4, hn4⟩ : ∃ b, (dnum l (b4_, d4_)).1 = b := ⟨_, rfl⟩
      obtain ⟨s4, hs4⟩ : ∃ b, (dnum l (b4_, d4_)).2 = b := ⟨_, rfl⟩
      have hp4 := dnum_pl HW.out (s := (b4_, d4_)) HIb.out.pl
      have hnn := dnum_n (s := (b4_, d4_)) HW.out
      rw [hs4] at hp4
      rw [hn4] at hnn
      rw [hn4, hs4]
      have HN4 := Aside0.mk hn4
      have HSt4 := Aside0.mk hs4
      have HNN4 := Aside0.mk hnn
      have HIa := Aside0.mk (HIb.out.later hb)
      obtain ⟨a4, bad4⟩ := s4
      have HI4 := Aside0.mk (HIa.out.move (s' := (a4, bad4)) hp4)
      obtain ⟨W4, hW4⟩ : ∃ W, W = (((w4.setCell ⟨g5, 0, none⟩ (.slice A l.length c)).setCell ⟨g5, 1, none⟩ (.int .i64 a4)).setCell ⟨g5, 2, none⟩ (.bool bad4)) := ⟨_, rfl⟩
      simp only [← hW4] at HI4
      have h50 : w4.cell? ⟨g5, 0, none⟩ = some (.slice A l.length c) := (blk_cell HIa.out.sb 0).trans rfl
      have h51 := (blk_cell HIa.out.sb 1).trans rfl
      have h52 := (blk_cell HIa.out.sb 2).trans rfl
      have h5f0 := blk_frozen HIa.out.sb 0
      have h5f1 := blk_frozen HIa.out.sb 1
      have h5f2 := blk_frozen HIa.out.sb 2
      clear hb hn4 hs4 hp4 hnn
      go_upto_block 4 with fail
      clear HIa h50 h51 h52 h5f0 h5f1 h5f2
      go_cut [20] (fun _ wx => ∃ v, Aside0 (InvD wa g5 ga A c l b1 (rep (dstep3 l) n4.toNat ((a4, bad4), [])).1 v1 v2 v es ls (rep (dstep3 l) n4.toNat ((a4, bad4), [])).2 wx))
      case first =>
        rw [← hW4]
        clear hW4
        go_wp2_with fail
        go_loopw [20] (fun vi wr => ∃ (x : Int) (s' : Int × Bool) (v : Value) (zs : List S97), vi = .int .i64 x ∧ 0 ≤ x ∧ x ≤ n4 ∧ Aside0 (rep (dstep3 l) (n4 - x).toNat (s', zs) = rep (dstep3 l) n4.toNat ((a4, bad4), [])) ∧ Aside0 ((zs.length : Int) = x) ∧ Aside0 (InvD wa g5 ga A c l b1 s' v1 v2 v es ls zs wr)) (fun vi _ => n4.toNat - (intOf vi).toNat)
        case atStart => exact ⟨0, (a4, bad4), _, [], rfl, by omega, HNN4.out.1, ⟨by simp⟩, ⟨by simp⟩, HI4⟩
        case round =>
          clear HI4
          obtain ⟨x, s', v, zs, rfl, h0, h1, HA, HZ, HI⟩ := hrel
          obtain ⟨a0, d0⟩ := s'
          have h50 : wr.cell? ⟨g5, 0, none⟩ = some (.slice A l.length c) := (blk_cell HI.out.sb 0).trans rfl
          have h51 : wr.cell? ⟨g5, 1, none⟩ = some (.int .i64 a0) := (blk_cell HI.out.sb 1).trans rfl
          have h52 : wr.cell? ⟨g5, 2, none⟩ = some (.bool d0) := (blk_cell HI.out.sb 2).trans rfl
          cases hq : decide (x < n4) with
          | false =>
            have HX := Aside0.mk (show (n4 - x).toNat = 0 by have := of_decide_eq_false hq; omega)
            go_wp2_with fail
            go_meet
            case rel => exact ⟨v, ⟨by have h := HA.out; rw [HX.out] at h; rw [← h]; exact HI.out⟩⟩
          | true =>
            cases d0 with
            | true =>
              go_wp2_with fail
              go_meet
              case rel => exact ⟨v, ⟨by have h := HA.out; rw [rep_bad _ _ _ rfl] at h; rw [← h]; exact HI.out⟩⟩
            | false =>
              have hx0 := of_decide_eq_true hq
              have HX := Aside0.mk (show (n4 - x).toNat = (n4 - (x + 1)).toNat + 1 by omega)
              have hn9 : n4 ≤ 2147483647 := HNN4.out.2
              have hzl : zs.length ≤ 2147483647 := by have := HZ.out; have := HNN4.out.2; omega
              obtain ⟨Ao, co, eo⟩ := Kd.S_slice HI.out.r3
              subst eo
              go_wp2_with fail
              have HJ0 := HI
              have hpl0 := HI.out.pl
              refine (ref10_num A c l (a0, false) wr (Kd.C_below HRa.out HJ0.out.below) hc HW.out hpl0 hL).mono ?_
              rintro e x1 hp
              obtain ⟨he, hb⟩ := hp.out
              subst he
              obtain ⟨p1, hpp⟩ : ∃ b, (dnum l (a0, false)).1 = b := ⟨_, rfl⟩
              obtain ⟨s1', hss⟩ : ∃ b, (dnum l (a0, false)).2 = b := ⟨_, rfl⟩
              have hpl1 := dnum_pl HW.out (s := (a0, false)) hpl0
              rw [hss] at hpl1
              rw [hpp, hss]
              have HE1 := Aside0.mk hpp
              have HF1 := Aside0.mk hss
              clear hpp hss
              obtain ⟨a1, d1⟩ := s1'
              obtain ⟨gt1, hgt1⟩ : ∃ g, g = x1.heap.size := ⟨_, rfl⟩
              obtain ⟨X1, hX1⟩ : ∃ X, X = x1.alloc (.cells #[.slice A l.length c, .int .i64 a1, .bool d1] 118) := ⟨_, rfl⟩
              have HBX : Below x1.heap.size x1 X1 := by rw [hX1]; exact below_alloc (Below.refl _ _) _
              have HGT1 := Aside0.mk (show X1.heap[gt1]? = some (.cells #[.slice A l.length c, .int .i64 a1, .bool d1] 118 (0, 0)) by rw [hX1, hgt1]; exact blk_new _ _)
              have HV1 := Aside0.mk (show Below wr.heap.size wr X1 from below_step hb HBX)
              have HJ1 := Aside0.mk ((HJ0.out.later hb).later HBX)
              clear hb HBX h50 h51 h52
              have h60 : (x1.alloc (.cells #[.slice A l.length c, .int .i64 a1, .bool d1] 118)).cell? ⟨x1.heap.size, 0, none⟩ = some (.slice A l.length c) := by rw [← hX1, ← hgt1]; exact (blk_cell HGT1.out 0).trans rfl
              have h61 : (x1.alloc (.cells #[.slice A l.length c, .int .i64 a1, .bool d1] 118)).cell? ⟨x1.heap.size, 1, none⟩ = some (.int .i64 a1) := by rw [← hX1, ← hgt1]; exact (blk_cell HGT1.out 1).trans rfl
              have h62 : (x1.alloc (.cells #[.slice A l.length c, .int .i64 a1, .bool d1] 118)).cell? ⟨x1.heap.size, 2, none⟩ = some (.bool d1) := by rw [← hX1, ← hgt1]; exact (blk_cell HGT1.out 2).trans rfl
              go_wp2_with fail
              rw [← hX1]
              try rw [← hgt1]
              clear h60 h61 h62 hX1 hgt1
              refine (ref10_num A c l (a1, d1) X1 (Kd.C_below HRa.out HJ1.out.below) hc HW.out hpl1 hL).mono ?_
              rintro e x2 hp
              obtain ⟨he, hb⟩ := hp.out
              subst he
              obtain ⟨p2, hpp⟩ : ∃ b, (dnum l (a1, d1)).1 = b := ⟨_, rfl⟩
              obtain ⟨s2', hss⟩ : ∃ b, (dnum l (a1, d1)).2 = b := ⟨_, rfl⟩
              have hpl2 := dnum_pl HW.out (s := (a1, d1)) hpl1
              rw [hss] at hpl2
              rw [hpp, hss]
              have HE2 := Aside0.mk hpp
              have HF2 := Aside0.mk hss
              clear hpp hss
              obtain ⟨a2, d2⟩ := s2'
              obtain ⟨gt2, hgt2⟩ : ∃ g, g = x2.heap.size := ⟨_, rfl⟩
              obtain ⟨X2, hX2⟩ : ∃ X, X = x2.alloc (.cells #[.slice A l.length c, .int .i64 a2, .bool d2] 118) := ⟨_, rfl⟩
              have HBX : Below x2.heap.size x2 X2 := by rw [hX2]; exact below_alloc (Below.refl _ _) _
              have HGT2 := Aside0.mk (show X2.heap[gt2]? = some (.cells #[.slice A l.length c, .int .i64 a2, .bool d2] 118 (0, 0)) by rw [hX2, hgt2]; exact blk_new _ _)
              have HV2 := Aside0.mk (show Below wr.heap.size wr X2 from below_step (below_step HV1.out hb) HBX)
              have HJ2 := Aside0.mk ((HJ1.out.later hb).later HBX)
              clear hb HBX
              have h60 : (x2.alloc (.cells #[.slice A l.length c, .int .i64 a2, .bool d2] 118)).cell? ⟨x2.heap.size, 0, none⟩ = some (.slice A l.length c) := by rw [← hX2, ← hgt2]; exact (blk_cell HGT2.out 0).trans rfl
              have h61 : (x2.alloc (.cells #[.slice A l.length c, .int .i64 a2, .bool d2] 118)).cell? ⟨x2.heap.size, 1, none⟩ = some (.int .i64 a2) := by rw [← hX2, ← hgt2]; exact (blk_cell HGT2.out 1).trans rfl
              have h62 : (x2.alloc (.cells #[.slice A l.length c, .int .i64 a2, .bool d2] 118)).cell? ⟨x2.heap.size, 2, none⟩ = some (.bool d2) := by rw [← hX2, ← hgt2]; exact (blk_cell HGT2.out 2).trans rfl
              go_wp2_with fail
              rw [← hX2]
              try rw [← hgt2]
              clear h60 h61 h62 hX2 hgt2
              refine (ref10_num A c l (a2, d2) X2 (Kd.C_below HRa.out HJ2.out.below) hc HW.out hpl2 hL).mono ?_
              rintro e x3 hp
              obtain ⟨he, hb⟩ := hp.out
              subst he
              obtain ⟨p3, hpp⟩ : ∃ b, (dnum l (a2, d2)).1 = b := ⟨_, rfl⟩
              obtain ⟨s3', hss⟩ : ∃ b, (dnum l (a2, d2)).2 = b := ⟨_, rfl⟩
              have hpl3 := dnum_pl HW.out (s := (a2, d2)) hpl2
              rw [hss] at hpl3
              rw [hpp, hss]
              have HE3 := Aside0.mk hpp
              have HF3 := Aside0.mk hss
              clear hpp hss
              obtain ⟨a3, d3⟩ := s3'
              obtain ⟨gt3, hgt3⟩ : ∃ g, g = x3.heap.size := ⟨_, rfl⟩
              obtain ⟨X3, hX3⟩ : ∃ X, X = x3.alloc (.cells #[.slice A l.length c, .int .i64 a3, .bool d3] 118) := ⟨_, rfl⟩
              have HBX : Below x3.heap.size x3 X3 := by rw [hX3]; exact below_alloc (Below.refl _ _) _
              have HGT3 := Aside0.mk (show X3.heap[gt3]? = some (.cells #[.slice A l.length c, .int .i64 a3, .bool d3] 118 (0, 0)) by rw [hX3, hgt3]; exact blk_new _ _)
              have HV3 := Aside0.mk (show Below wr.heap.size wr X3 from below_step (below_step HV2.out hb) HBX)
              have HJ3 := Aside0.mk ((HJ2.out.later hb).later HBX)
              clear hb HBX
              have h60 : (x3.alloc (.cells #[.slice A l.length c, .int .i64 a3, .bool d3] 118)).cell? ⟨x3.heap.size, 0, none⟩ = some (.slice A l.length c) := by rw [← hX3, ← hgt3]; exact (blk_cell HGT3.out 0).trans rfl
              have h61 : (x3.alloc (.cells #[.slice A l.length c, .int .i64 a3, .bool d3] 118)).cell? ⟨x3.heap.size, 1, none⟩ = some (.int .i64 a3) := by rw [← hX3, ← hgt3]; exact (blk_cell HGT3.out 1).trans rfl
              have h62 : (x3.alloc (.cells #[.slice A l.length c, .int .i64 a3, .bool d3] 118)).cell? ⟨x3.heap.size, 2, none⟩ = some (.bool d3) := by rw [← hX3, ← hgt3]; exact (blk_cell HGT3.out 2).trans rfl
              go_wp2_with fail
              rw [← hX3]
              try rw [← hgt3]
              clear h60 h61 h62 hX3 hgt3
              refine (ref10_get A c l (a3, d3) X3 (Kd.C_below HRa.out HJ3.out.below) hc HW.out hpl3 hL).mono ?_
              rintro e x4 hp
              obtain ⟨u, rfl, ho, hb⟩ := hp.out
              obtain ⟨p4, hpp⟩ : ∃ b, (dget l (a3, d3)).1 = b := ⟨_, rfl⟩
              obtain ⟨s4', hss⟩ : ∃ b, (dget l (a3, d3)).2 = b := ⟨_, rfl⟩
              have hpl4 := dget_pl HW.out (s := (a3, d3)) hpl3
              rw [hss] at hpl4
              rw [hpp] at ho
              rw [hss]
              obtain ⟨A4, c4, rfl, hcc, hrr⟩ := ho.reads
              clear hcc hrr
              have HE4 := Aside0.mk hpp
              have HF4 := Aside0.mk hss
              clear hpp hss
              obtain ⟨a4, d4⟩ := s4'
              obtain ⟨gt4, hgt4⟩ : ∃ g, g = x4.heap.size := ⟨_, rfl⟩
              obtain ⟨X4, hX4⟩ : ∃ X, X = x4.alloc (.cells #[.slice A l.length c, .int .i64 a4, .bool d4] 118) := ⟨_, rfl⟩
              have HBX : Below x4.heap.size x4 X4 := by rw [hX4]; exact below_alloc (Below.refl _ _) _
              have HGT4 := Aside0.mk (show X4.heap[gt4]? = some (.cells #[.slice A l.length c, .int .i64 a4, .bool d4] 118 (0, 0)) by rw [hX4, hgt4]; exact blk_new _ _)
              have HV4 := Aside0.mk (show Below wr.heap.size wr X4 from below_step (below_step HV3.out hb) HBX)
              have HJ4 := Aside0.mk ((HJ3.out.later hb).later HBX)
              have HO4 := Aside0.mk (OB.lower (ho.below HBX) HV3.out.size)
              clear ho
              clear hb HBX
              have hx : (x4.alloc (.cells #[.slice A l.length c, .int .i64 a4, .bool d4] 118)).cell? ⟨ga, 3, none⟩ = some (.slice Ao zs.length co) := by rw [← hX4]; exact (blk_cell HJ4.out.ab 3).trans rfl
              have HSZ := Aside0.mk (show X4.heap.size = x4.heap.size + 1 by rw [hX4]; simp)
              go_wp2_with (first | ((with_reducible refine gate_builtin (b := .append) (xs := #[.tmp 148, .tmp 155]) rfl ?_); at_builtin; rw [← hX4]; refine Kd.S_append k97 (w0 := wa) (W := X4) wa.heap.size rfl (.tmp 148) (.tmp 155) 24 97 (.agg #[.int .i64 0, .int .i64 0, .int .i64 0, .slice none 0 0]) 48 rfl Try.underlying24 info97 rfl (by decide) (by omega) (.slice Ao zs.length co) zs (⟨p1, p2, ⟨p3, p4⟩⟩ : S97) [.int .i64 p1, .int .i64 p2, .int .i64 p3, .slice A4 p4.length c4] (fun _ => True) (fun k => wr.heap.size ≤ k) rfl (by rw [HSZ.out]; rfl) ?aP ?aK (fun _ _ => trivial) ?aO ?aB ?aS ?aL ?_; (case aP => exact k97_mkM _ _ _ _ (Kd.R_mono (OB.at_ HO4.out HI.out.size) (fun _ hk => hk))); (case aK => exact (fun k hk => ⟨trivial, fun e => by have := Kd.S_lt HI.out.r3 k e.symm; omega⟩)); (case aO => exact Kd.S_mono (Kd.S_old HI.out.r3 HV4.out) (fun k hk => ⟨trivial, by omega⟩)); (case aB => exact HJ4.out.below); (case aS => exact HJ4.out.size); (case aL => omega); intro v4 w4 ho hb hg hat; obtain ⟨ys, hys⟩ : ∃ ys, zs ++ [(⟨p1, p2, ⟨p3, p4⟩⟩ : S97)] = ys := ⟨_, rfl⟩; rw [hys] at ho; have HY := Aside0.mk hys; clear hys; obtain ⟨A4, c4, rfl⟩ := Kd.S_slice ho; have HI4 := Aside0.mk (HJ4.out.put3 hg ho); have HT4 := Aside0.mk (HJ4.out.other3 (v' := .slice A4 ys.length c4) hg HGT4.out); have hx4 := (blk_cell (blk_grown HJ4.out.ab hg (Kd.S_ne HJ4.out.r3 HJ4.out.ab (by decide))) 3).trans rfl; have hfx4 := blk_frozen (blk_grown HJ4.out.ab hg (Kd.S_ne HJ4.out.r3 HJ4.out.ab (by decide))) 3; rw [hgt4] at HT4; have h70 := (blk_cell HT4.out 0).trans rfl; have h71 := (blk_cell HT4.out 1).trans rfl; have h72 := (blk_cell HT4.out 2).trans rfl; have h80 := (blk_cell HI4.out.sb 0).trans rfl; have h81 := (blk_cell HI4.out.sb 1).trans rfl; have h82 := (blk_cell HI4.out.sb 2).trans rfl; have h8f0 := blk_frozen HI4.out.sb 0; have h8f1 := blk_frozen HI4.out.sb 1; have h8f2 := blk_frozen HI4.out.sb 2; clear ho hb hg hat))
              go_roundw
              case rel => exact ⟨x + 1, (a4, d4), _, _, by go_num, by omega, by omega, ⟨by have h := HA.out; rw [HX.out, rep_go _ _ _ rfl] at h; rw [← h]; simp only [dstep3, HE1.out, HF1.out, HE2.out, HF2.out, HE3.out, HF3.out, HE4.out, HF4.out, HY.out]⟩, ⟨by have := HZ.out; rw [← HY.out, List.length_append]; simp; omega⟩, ⟨HI4.out.move (s' := (a4, d4)) hpl4⟩⟩
              case measure => simp [intOf]; omega
      case rest =>
        obtain ⟨v3, HIb⟩ := hcut
        obtain ⟨ss, hxs⟩ : ∃ b, (rep (dstep3 l) n4.toNat ((a4, bad4), [])).2 = b := ⟨_, rfl⟩
        obtain ⟨t3, hts⟩ : ∃ b, (rep (dstep3 l) n4.toNat ((a4, bad4), [])).1 = b := ⟨_, rfl⟩
        rw [hxs, hts] at HIb
        have HXs3 := Aside0.mk hxs
        have HTs3 := Aside0.mk hts
        have HLn3 := Aside0.mk (show ss.length ≤ 2147483647 by have h1 := rep_len1 dstep3 l (fun x => by simp [dstep3]) n4.toNat ((a4, bad4), []); have h2 := HNN4.out; rw [hxs] at h1; simp only [List.length_nil] at h1; omega)
        obtain ⟨b5_, d5_⟩ := t3
        clear hxs hts
        obtain ⟨A1, c1, rfl, m1, g1⟩ := Kd.S_reads HIb.out.r1
        obtain ⟨A2, c2, rfl, m2, g2⟩ := Kd.S_reads HIb.out.r2
        obtain ⟨A3, c3, rfl, m3, g3⟩ := Kd.S_reads HIb.out.r3
        have G1 := Aside0.mk g1
        have G2 := Aside0.mk g2
        have G3 := Aside0.mk g3
        have HP := Aside0.mk (show dparse l = ⟨b1, es, ls, ss, (b5_, d5_)⟩ by unfold dparse dmany; simp only [HE1.out, HE2.out, HN2.out, HSt2.out, HXs1.out, HTs1.out, HN3.out, HSt3.out, HXs2.out, HTs2.out, HN4.out, HSt4.out, HXs3.out, HTs3.out])
        have HZ5 := Aside0.mk (blk_below HZ.out (Below.mono HIb.out.below (Nat.le_refl _)))
        have HBA5 := Aside0.mk (below_step HBa.out HIb.out.below)
        clear HE1 HE2 HN2 HSt2 HXs1 HTs1 HN3 HSt3 HXs2 HTs2 HN4 HSt4 HXs3 HTs3 g1 g2 g3
        have h51 : wc.cell? ⟨g5, 1, none⟩ = some (.int .i64 b5_) := (blk_cell HIb.out.sb 1).trans rfl
        have h52 : wc.cell? ⟨g5, 2, none⟩ = some (.bool d5_) := (blk_cell HIb.out.sb 2).trans rfl
        cases hd5 : d5_ with
        | true =>
          subst hd5
          have HB := Aside0.mk (show ¬ (dparse l).ok' l by rw [HP.out]; exact fun h => by have := h.1; simp at this)
          have hz0 : wc.cell? ⟨gz, 0, none⟩ = some (.int .i64 0) := (blk_cell HZ5.out 0).trans rfl
          have hf0 := blk_frozen HZ5.out 0
          have hz1 : wc.cell? ⟨gz, 1, none⟩ = some (.slice none 0 0) := (blk_cell HZ5.out 1).trans rfl
          have hf1 := blk_frozen HZ5.out 1
          have hz2 : wc.cell? ⟨gz, 2, none⟩ = some (.slice none 0 0) := (blk_cell HZ5.out 2).trans rfl
          have hf2 := blk_frozen HZ5.out 2
          have hz3 : wc.cell? ⟨gz, 3, none⟩ = some (.slice none 0 0) := (blk_cell HZ5.out 3).trans rfl
          have hf3 := blk_frozen HZ5.out 3
          go_wp2_with fail
          refine bodyPost_ret (results_ct rfl _ _ gz 26 #[.int .i64 0, .slice none 0 0, .slice none 0 0, .slice none 0 0] (0, 0) _ rfl (put4 HZ5.out) Try.underlying26 rfl (by kernel_rfl)) rfl ?_
          exact ⟨0, _, _, _, [], [], [], 101, rfl, Kd.S_nil _ _ _ _ _, Kd.S_nil _ _ _ _ _, Kd.S_nil _ _ _ _ _, below_put4 (HBA5.out) (by rw [HGZ0.out]; exact Nat.le_refl _), fun h => absurd h HB.out, fun _ => ⟨rfl, rfl, rfl, rfl, rfl⟩⟩
        | false =>
          subst hd5
          cases hq5 : (b5_ != (l.length : Int)) with
          | true =>
            have HB := Aside0.mk (show ¬ (dparse l).ok' l by rw [HP.out]; exact fun h => by have := h.2.1; simp only at this; rw [this] at hq5; simp at hq5)
            have hz0 : wc.cell? ⟨gz, 0, none⟩ = some (.int .i64 0) := (blk_cell HZ5.out 0).trans rfl
            have hf0 := blk_frozen HZ5.out 0
            have hz1 : wc.cell? ⟨gz, 1, none⟩ = some (.slice none 0 0) := (blk_cell HZ5.out 1).trans rfl
            have hf1 := blk_frozen HZ5.out 1
            have hz2 : wc.cell? ⟨gz, 2, none⟩ = some (.slice none 0 0) := (blk_cell HZ5.out 2).trans rfl
            have hf2 := blk_frozen HZ5.out 2
            have hz3 : wc.cell? ⟨gz, 3, none⟩ = some (.slice none 0 0) := (blk_cell HZ5.out 3).trans rfl
            have hf3 := blk_frozen HZ5.out 3
            go_wp2_with fail
            refine bodyPost_ret (results_ct rfl _ _ gz 26 #[.int .i64 0, .slice none 0 0, .slice none 0 0, .slice none 0 0] (0, 0) _ rfl (put4 HZ5.out) Try.underlying26 rfl (by kernel_rfl)) rfl ?_
            exact ⟨0, _, _, _, [], [], [], 101, rfl, Kd.S_nil _ _ _ _ _, Kd.S_nil _ _ _ _ _, Kd.S_nil _ _ _ _ _, below_put4 (HBA5.out) (by rw [HGZ0.out]; exact Nat.le_refl _), fun h => absurd h HB.out, fun _ => ⟨rfl, rfl, rfl, rfl, rfl⟩⟩
          | false =>
            have HQ := Aside0.mk (show b5_ = (l.length : Int) by simpa using hq5)
            have ha0 : wc.cell? ⟨ga, 0, none⟩ = some (.int .i64 b1) := (blk_cell HIb.out.ab 0).trans rfl
            have ha1 : wc.cell? ⟨ga, 1, none⟩ = some (.slice A1 es.length c1) := (blk_cell HIb.out.ab 1).trans rfl
            have ha2 : wc.cell? ⟨ga, 2, none⟩ = some (.slice A2 ls.length c2) := (blk_cell HIb.out.ab 2).trans rfl
            have ha3 : wc.cell? ⟨ga, 3, none⟩ = some (.slice A3 ss.length c3) := (blk_cell HIb.out.ab 3).trans rfl
            go_wp2_with fail
            refine (ref09_Right b1 A1 A2 A3 c1 c2 c3 es ls ss wc G1.out m1 G2.out m2 G3.out m3).mono ?_
            rintro e w6 hp
            obtain ⟨rb, rfl, hb6, hiff⟩ := hp
            have HI6 := Aside0.mk (HIb.out.later hb6)
            have HZ6 := Aside0.mk (blk_below HZ5.out hb6)
            have HIF := Aside0.mk hiff
            have HB6 := Aside0.mk (below_step HBA5.out hb6)
            clear hb6 hiff ha0 ha1 ha2 ha3
            have hz0 : w6.cell? ⟨gz, 0, none⟩ = some (.int .i64 0) := (blk_cell HZ6.out 0).trans rfl
            have hf0 := blk_frozen HZ6.out 0
            have hz1 : w6.cell? ⟨gz, 1, none⟩ = some (.slice none 0 0) := (blk_cell HZ6.out 1).trans rfl
            have hf1 := blk_frozen HZ6.out 1
            have hz2 : w6.cell? ⟨gz, 2, none⟩ = some (.slice none 0 0) := (blk_cell HZ6.out 2).trans rfl
            have hf2 := blk_frozen HZ6.out 2
            have hz3 : w6.cell? ⟨gz, 3, none⟩ = some (.slice none 0 0) := (blk_cell HZ6.out 3).trans rfl
            have hf3 := blk_frozen HZ6.out 3
            have ha0 : w6.cell? ⟨ga, 0, none⟩ = some (.int .i64 b1) := (blk_cell HI6.out.ab 0).trans rfl
            have ha1 : w6.cell? ⟨ga, 1, none⟩ = some (.slice A1 es.length c1) := (blk_cell HI6.out.ab 1).trans rfl
            have ha2 : w6.cell? ⟨ga, 2, none⟩ = some (.slice A2 ls.length c2) := (blk_cell HI6.out.ab 2).trans rfl
            have ha3 : w6.cell? ⟨ga, 3, none⟩ = some (.slice A3 ss.length c3) := (blk_cell HI6.out.ab 3).trans rfl
            cases rb with
            | true =>
              have HB := Aside0.mk (show (dparse l).ok' l by rw [HP.out]; exact ⟨rfl, HQ.out, HIF.out.1 rfl⟩)
              go_wp2_with fail
              refine bodyPost_ret (results_ct rfl _ _ gz 26 #[.int .i64 b1, .slice A1 es.length c1, .slice A2 ls.length c2, .slice A3 ss.length c3] (0, 0) _ rfl (put4 HZ6.out) Try.underlying26 rfl (by kernel_rfl)) rfl ?_
              exact ⟨b1, _, _, _, es, ls, ss, 0, rfl, S_put4 (Kd.S_lower HI6.out.r1 HBa.out.size) HZ6.out (by decide), S_put4 (Kd.S_lower HI6.out.r2 HBa.out.size) HZ6.out (by decide), S_put4 (Kd.S_lower HI6.out.r3 HBa.out.size) HZ6.out (by decide), below_put4 HB6.out (by rw [HGZ0.out]; exact Nat.le_refl _), fun _ => by rw [HP.out]; exact ⟨rfl, rfl, rfl, rfl, rfl⟩, fun h => absurd HB.out h⟩
            | false =>
              have HB := Aside0.mk (show ¬ (dparse l).ok' l by rw [HP.out]; exact fun h => by have := HIF.out.2 h.2.2; cases this)
              go_wp2_with fail
              refine bodyPost_ret (results_ct rfl _ _ gz 26 #[.int .i64 0, .slice none 0 0, .slice none 0 0, .slice none 0 0] (0, 0) _ rfl (put4 HZ6.out) Try.underlying26 rfl (by kernel_rfl)) rfl ?_
              exact ⟨0, _, _, _, [], [], [], 101, rfl, Kd.S_nil _ _ _ _ _, Kd.S_nil _ _ _ _ _, Kd.S_nil _ _ _ _ _, below_put4 (HB6.out) (by rw [HGZ0.out]; exact Nat.le_refl _), fun h => absurd h HB.out, fun _ => ⟨rfl, rfl, rfl, rfl, rfl⟩⟩

end Go.Proofs.Ytophfoenaekfjaa

namespace Go.Proofs.Ytophfoenaekfjaa
open Go.RowKit Go.Proofs.YtophfoenaekfjaaW.PrintWords Go.Proofs.YtophfoenaekfjaaW.PrintLast Go.Proofs.YtophfoenaekfjaaW.PrintMore Go.Proofs.Ytophfoenaekfjaa.PSnapEncodes
set_option linter.unusedVariables false
set_option linter.unusedSimpArgs false

theorem dparse_alive : dparse [9, 0, 0, 0] = ⟨9, [], [], [], (4, false)⟩ := by kernel_rfl
theorem alive_wf : wfB [9, 0, 0, 0] := by
  intro c hc
  simp at hc
  omega
theorem goodA_empty (n : Int) (h0 : 0 ≤ n) (h1 : n ≤ 1000000) : goodA n [] [] [] :=
  ⟨⟨h0, h1⟩, ⟨by simp, fun x h0 hx => by simp at hx; omega⟩, ⟨by simp, fun x h0 hx => by simp at hx; omega⟩, fun x h0 hx => by simp at hx; omega⟩
theorem alive_ok : (parse [9, 0, 0, 0]).ok [9, 0, 0, 0] := by
  rw [parse_ok alive_wf]
  unfold Parsed.ok'
  rw [dparse_alive]
  exact ⟨rfl, rfl, goodA_empty 9 (by omega) (by omega)⟩
theorem alive_m : (parse [9, 0, 0, 0]).m = 9 := by rw [parse_eq alive_wf alive_ok, dparse_alive]
theorem enc_empty : encA 0 [] [] [] = [0, 0, 0, 0] := by
  unfold encA
  simp [nat, encE, encL, encS, vint_small]
theorem C_litB (W : World) (xs : List Int) (hm : xs.length ≤ 1000) : CB (W.alloc (.cells (xs.map (Value.int .u8)).toArray 5)) (some ⟨W.heap.size, 0, none⟩) xs :=
  C_lits (Value.int .u8) (fun _ _ => rfl) rfl W xs 5 (by omega)
theorem same_zero : sameB [0, 0, 0, 0] [0, 0, 0, 0] = true := by unfold sameB; exact beq_self_eq_true _
set_option maxHeartbeats 4000000 in
set_option maxRecDepth 100000 in
theorem snapAlive (w : World) : Calls Try.prog 18 #[] w fun e w' => e = .returned (.bool true) ∧ Below w.heap.size w w' := by
  go_enter Try.func18, Try.ntmps18
  go_wp2_with fail
  refine (snap_Encode 0 none none none 0 0 0 [] [] [] w (Kd.C_nil _ _) (by simp) (Kd.C_nil _ _) (by simp) (Kd.C_nil _ _) (by simp)).mono ?_
  rintro e w1 hp
  obtain ⟨v1, b1, er, rfl, ho, hb, hyes, hno⟩ := hp.out
  obtain ⟨hb1, her⟩ := hyes (goodA_empty 0 (by omega) (by omega))
  subst her
  rw [enc_empty] at hb1
  subst hb1
  obtain ⟨A1, c1, hv, hc1, hr1⟩ := ho.reads
  subst hv
  have HR1 := Aside0.mk hr1
  have HB1 := Aside0.mk hb
  clear hyes hno hb ho hr1
  go_wp2_with fail
  refine (snap_Decode _ 4 [9, 0, 0, 0] _ (C_litB w1 [9, 0, 0, 0] (by simp)) (by simp) alive_wf (by simp)).mono ?_
  rintro e w2 hp
  obtain ⟨m, v1, v2, v3, es, ls, ss, er, rfl, r1, r2, r3, hb, hyes, hno⟩ := hp.out
  have hm := (hyes alive_ok).1
  have her := (hyes alive_ok).2.2.2.2
  rw [alive_m] at hm
  subst hm
  subst her
  obtain ⟨A2, c2, hv2⟩ := Kd.S_slice r1
  obtain ⟨A3, c3, hv3⟩ := Kd.S_slice r2
  obtain ⟨A4, c4, hv4⟩ := Kd.S_slice r3
  subst hv2
  subst hv3
  subst hv4
  have HB2 := Aside0.mk (below_step (below_alloc HB1.out _) hb)
  have HR2 := Aside0.mk (Kd.C_below (Kd.C_below HR1.out (below_alloc (Below.refl _ _) _)) hb)
  clear r1 r2 r3 hyes hno hb HR1
  have HL := Aside0.mk (C_litB (w2.alloc (.cells #[.int .i64 9, .slice A2 es.length c2, .slice A3 ls.length c3, .slice A4 ss.length c4] 26)) [0, 0, 0, 0] (by simp))
  rw [show (w2.alloc (.cells #[.int .i64 9, .slice A2 es.length c2, .slice A3 ls.length c3, .slice A4 ss.length c4] 26)).heap.size = w2.heap.size + 1 by simp] at HL
  go_wp2_with fail
  refine (ref01_Same A1 (some ⟨w2.heap.size + 1, 0, none⟩) c1 4 [0, 0, 0, 0] [0, 0, 0, 0] _ (Kd.C_below HR2.out (below_alloc (below_alloc (Below.refl _ _) _) _)) HL.out).mono ?_
  rintro e w3 ⟨he, hd⟩
  rw [same_zero] at he
  subst he
  have hb3 := hd.below
  obtain ⟨m3, rfl⟩ := hd.out
  have HB3 := Aside0.mk (below_step (below_alloc (below_alloc HB2.out _) _) hb3)
  clear hb3 hd HL HR2
  go_wp2_with fail
  go_ret
  exact ⟨rfl, HB3.out⟩

end Go.Proofs.Ytophfoenaekfjaa

namespace Go.Proofs.Ytophfoenaekfjaa
open Go.RowKit Go.Proofs.YtophfoenaekfjaaW.PrintWords Go.Proofs.YtophfoenaekfjaaW.PrintLast Go.Proofs.YtophfoenaekfjaaW.PrintMore Go.Proofs.Ytophfoenaekfjaa.PSnapEncodes
set_option linter.unusedVariables false
set_option linter.unusedSimpArgs false

structure sameE1 (a b : S72) : Prop where
  f0 : sameB a.f0 b.f0 = true
  f1 : sameB a.f1 b.f1 = true
structure sameL1 (a b : S87) : Prop where
  f0 : sameB a.f0 b.f0 = true
  f1 : a.f1 = b.f1
  f2 : a.f2 = b.f2
structure sameS1 (a b : S97) : Prop where
  f0 : a.f0 = b.f0
  f1 : a.f1 = b.f1
  f2 : a.f2.f0 = b.f2.f0
  f3 : sameB a.f2.f1 b.f2.f1 = true
def sameE (a b : List S72) : Prop := a.length = b.length ∧ ∀ x : Int, 0 ≤ x → x < a.length → sameE1 (rd_T72 a x) (rd_T72 b x)
def sameL (a b : List S87) : Prop := a.length = b.length ∧ ∀ x : Int, 0 ≤ x → x < a.length → sameL1 (rd_T87 a x) (rd_T87 b x)
def sameS (a b : List S97) : Prop := a.length = b.length ∧ ∀ x : Int, 0 ≤ x → x < a.length → sameS1 (rd_T97 a x) (rd_T97 b x)
set_option maxHeartbeats 4000000 in
set_option maxRecDepth 100000 in
theorem ref07_Same (A0 A1 : Option Addr) (c0 c1 : Nat) (l l' : List S72) (w : World) (hr0 : Kd.C k72 w A0 l.length l) (hr1 : Kd.C k72 w A1 l'.length l') :
    Calls Try.prog 43 #[.slice A0 l.length c0, .slice A1 l'.length c1] w (PostB w fun b => (b = true ↔ sameE l l')) := by
  have hlen := hr0.2.1
  have hlen' := hr1.2.1
  have HR0 := Aside0.mk hr0
  have HR1 := Aside0.mk hr1
  clear hr0 hr1
  cases hh : decide (l.length = l'.length) with
  | false =>
    have hne : ((l.length : Int) == (l'.length : Int)) = false := beq_eq_false_iff_ne.2 (fun h => of_decide_eq_false hh (by omega))
    have hne2 : (l.length == l'.length) = false := beq_eq_false_iff_ne.2 (fun h => of_decide_eq_false hh h)
    have hne3 : ((l.length : Int) != (l'.length : Int)) = true := by rw [bne, hne]; rfl
    have hne4 : (l.length != l'.length) = true := by rw [bne, hne2]; rfl
    go_enter Try.func43, Try.ntmps43
    go_wp2
    go_ret
    exact ⟨false, rfl, (by repeat (first | exact Below.refl _ _ | apply below_alloc | apply pw_below_drewN)), iff_of_false (by simp) (fun h => of_decide_eq_false hh h.1)⟩
  | true =>
    have he := of_decide_eq_true hh
    have HE := Aside0.mk he
    have hne : ((l.length : Int) == (l'.length : Int)) = true := beq_iff_eq.2 (by omega)
    have hne2 : (l.length == l'.length) = true := beq_iff_eq.2 he
    have hne3 : ((l.length : Int) != (l'.length : Int)) = false := by rw [bne, hne]; rfl
    have hne4 : (l.length != l'.length) = false := by rw [bne, hne2]; rfl
    clear he hh
    go_enter Try.func43, Try.ntmps43
    go_wp2
    go_loopw [13] (fun v wr => ∃ x : Int, v = .int .i64 x ∧ 0 ≤ x ∧ x ≤ l.length ∧ Aside0 (Below w.heap.size w wr) ∧ Aside0 (∀ j, 0 ≤ j → j < x → sameE1 (rd_T72 l j) (rd_T72 l' j))) (fun v _ => l.length - (intOf v).toNat)
    case atStart => exact ⟨0, rfl, by omega, by omega, ⟨Below.refl _ _⟩, ⟨fun j h1 => by omega⟩⟩
    case round =>
      clear hne hne2 hne3 hne4
      obtain ⟨x, rfl, h0, hi, HB, HA⟩ := hrel
      by_cases hlt : x < l.length
      · have hlt' : x < l'.length := by have := HE.out; omega
        obtain ⟨ad, A, c, A2, c2, e1, hx0, hx1, hl, hn, hl2, hn2⟩ := at_T72 (Kd.C_below HR0.out HB.out) x h0 hlt
        obtain ⟨ad', B, d, B2, d2, e2, hy0, hy1, gl, gn, gl2, gn2⟩ := at_T72 (Kd.C_below HR1.out HB.out) x h0 hlt'
        subst e1
        subst e2
        have HN := Aside0.mk hn
        have GN := Aside0.mk gn
        clear hn gn
        have HN2 := Aside0.mk hn2
        have GN2 := Aside0.mk gn2
        clear hn2 gn2
        cases hq0 : sameB (rd_T72 l x).f0 (rd_T72 l' x).f0 with
        | false =>
          go_wp2_with fail
          go_quiet (first | (go_at_call 22; exact quiet_of_drawn (ref01_Same _ _ _ _ _ _ _ (Kd.C_drewN HN.out _) (Kd.C_drewN GN.out _))) | (go_at_call 22; exact quiet_of_drawn (ref01_Same _ _ _ _ _ _ _ (Kd.C_drewN HN2.out _) (Kd.C_drewN GN2.out _))))
          go_wp2
          go_ret
          exact ⟨false, rfl, (by repeat (first | exact HB.out | apply below_alloc | apply pw_below_drewN)), iff_of_false (by simp) (fun h => by have e := (h.2 x h0 hlt).f0; rw [hq0] at e; cases e)⟩
        | true =>
          cases hq1 : sameB (rd_T72 l x).f1 (rd_T72 l' x).f1 with
          | false =>
            go_wp2_with fail
            go_quiet (first | (go_at_call 22; exact quiet_of_drawn (ref01_Same _ _ _ _ _ _ _ (Kd.C_drewN HN.out _) (Kd.C_drewN GN.out _))) | (go_at_call 22; exact quiet_of_drawn (ref01_Same _ _ _ _ _ _ _ (Kd.C_drewN HN2.out _) (Kd.C_drewN GN2.out _))))
            go_wp2
            go_ret
            exact ⟨false, rfl, (by repeat (first | exact HB.out | apply below_alloc | apply pw_below_drewN)), iff_of_false (by simp) (fun h => by have e := (h.2 x h0 hlt).f1; rw [hq1] at e; cases e)⟩
          | true =>
            go_wp2_with fail
            go_quiet (first | (go_at_call 22; exact quiet_of_drawn (ref01_Same _ _ _ _ _ _ _ (Kd.C_drewN HN.out _) (Kd.C_drewN GN.out _))) | (go_at_call 22; exact quiet_of_drawn (ref01_Same _ _ _ _ _ _ _ (Kd.C_drewN HN2.out _) (Kd.C_drewN GN2.out _))))
            go_wp2
            go_roundw
            case rel => exact ⟨x + 1, by go_num, by omega, by omega, ⟨by repeat (first | exact HB.out | apply below_alloc | apply pw_below_drewN)⟩, ⟨fun j h1 h2 => if e : j = x then by rw [e]; exact ⟨hq0, hq1⟩ else HA.out j h1 (by omega)⟩⟩
            case measure => simp [intOf]; omega
      · go_wp2
        go_ret
        exact ⟨true, rfl, HB.out, iff_of_true rfl ⟨HE.out, fun y h1 h2 => HA.out y h1 (by omega)⟩⟩
set_option maxHeartbeats 4000000 in
set_option maxRecDepth 100000 in
theorem ref08_Same (A0 A1 : Option Addr) (c0 c1 : Nat) (l l' : List S87) (w : World) (hr0 : Kd.C k87 w A0 l.length l) (hr1 : Kd.C k87 w A1 l'.length l') :
    Calls Try.prog 55 #[.slice A0 l.length c0, .slice A1 l'.length c1] w (PostB w fun b => (b = true ↔ sameL l l')) := by
  have hlen := hr0.2.1
  have hlen' := hr1.2.1
  have HR0 := Aside0.mk hr0
  have HR1 := Aside0.mk hr1
  clear hr0 hr1
  cases hh : decide (l.length = l'.length) with
  | false =>
    have hne : ((l.length : Int) == (l'.length : Int)) = false := beq_eq_false_iff_ne.2 (fun h => of_decide_eq_false hh (by omega))
    have hne2 : (l.length == l'.length) = false := beq_eq_false_iff_ne.2 (fun h => of_decide_eq_false hh h)
    have hne3 : ((l.length : Int) != (l'.length : Int)) = true := by rw [bne, hne]; rfl
    have hne4 : (l.length != l'.length) = true := by rw [bne, hne2]; rfl
    go_enter Try.func55, Try.ntmps55
    go_wp2
    go_ret
    exact ⟨false, rfl, (by repeat (first | exact Below.refl _ _ | apply below_alloc | apply pw_below_drewN)), iff_of_false (by simp) (fun h => of_decide_eq_false hh h.1)⟩
  | true =>
    have he := of_decide_eq_true hh
    have HE := Aside0.mk he
    have hne : ((l.length : Int) == (l'.length : Int)) = true := beq_iff_eq.2 (by omega)
    have hne2 : (l.length == l'.length) = true := beq_iff_eq.2 he
    have hne3 : ((l.length : Int) != (l'.length : Int)) = false := by rw [bne, hne]; rfl
    have hne4 : (l.length != l'.length) = false := by rw [bne, hne2]; rfl
    clear he hh
    go_enter Try.func55, Try.ntmps55
    go_wp2
    go_loopw [13] (fun v wr => ∃ x : Int, v = .int .i64 x ∧ 0 ≤ x ∧ x ≤ l.length ∧ Aside0 (Below w.heap.size w wr) ∧ Aside0 (∀ j, 0 ≤ j → j < x → sameL1 (rd_T87 l j) (rd_T87 l' j))) (fun v _ => l.length - (intOf v).toNat)
    case atStart => exact ⟨0, rfl, by omega, by omega, ⟨Below.refl _ _⟩, ⟨fun j h1 => by omega⟩⟩
    case round =>
      clear hne hne2 hne3 hne4
      obtain ⟨x, rfl, h0, hi, HB, HA⟩ := hrel
      by_cases hlt : x < l.length
      · have hlt' : x < l'.length := by have := HE.out; omega
        obtain ⟨ad, A, c, e1, hx0, hx1, hx2, hl, hn⟩ := at_T87 (Kd.C_below HR0.out HB.out) x h0 hlt
        obtain ⟨ad', B, d, e2, hy0, hy1, hy2, gl, gn⟩ := at_T87 (Kd.C_below HR1.out HB.out) x h0 hlt'
        subst e1
        subst e2
        have HN := Aside0.mk hn
        have GN := Aside0.mk gn
        clear hn gn

        cases hq0 : sameB (rd_T87 l x).f0 (rd_T87 l' x).f0 with
        | false =>
          go_wp2_with fail
          go_quiet (first | (go_at_call 22; exact quiet_of_drawn (ref01_Same _ _ _ _ _ _ _ (Kd.C_drewN HN.out _) (Kd.C_drewN GN.out _))))
          go_wp2
          go_ret
          exact ⟨false, rfl, (by repeat (first | exact HB.out | apply below_alloc | apply pw_below_drewN)), iff_of_false (by simp) (fun h => by have e := (h.2 x h0 hlt).f0; rw [hq0] at e; cases e)⟩
        | true =>
          cases hq1 : ((rd_T87 l x).f1 != (rd_T87 l' x).f1) with
          | true =>
            go_wp2_with fail
            go_quiet (first | (go_at_call 22; exact quiet_of_drawn (ref01_Same _ _ _ _ _ _ _ (Kd.C_drewN HN.out _) (Kd.C_drewN GN.out _))))
            go_wp2
            go_ret
            exact ⟨false, rfl, (by repeat (first | exact HB.out | apply below_alloc | apply pw_below_drewN)), iff_of_false (by simp) (fun h => by have e := (h.2 x h0 hlt).f1; rw [e] at hq1; simp at hq1)⟩
          | false =>
            cases hq2 : ((rd_T87 l x).f2 != (rd_T87 l' x).f2) with
            | true =>
              go_wp2_with fail
              go_quiet (first | (go_at_call 22; exact quiet_of_drawn (ref01_Same _ _ _ _ _ _ _ (Kd.C_drewN HN.out _) (Kd.C_drewN GN.out _))))
              go_wp2
              go_ret
              exact ⟨false, rfl, (by repeat (first | exact HB.out | apply below_alloc | apply pw_below_drewN)), iff_of_false (by simp) (fun h => by have e := (h.2 x h0 hlt).f2; rw [e] at hq2; simp at hq2)⟩
            | false =>
              go_wp2_with fail
              go_quiet (first | (go_at_call 22; exact quiet_of_drawn (ref01_Same _ _ _ _ _ _ _ (Kd.C_drewN HN.out _) (Kd.C_drewN GN.out _))))
              go_wp2
              go_roundw
              case rel => exact ⟨x + 1, by go_num, by omega, by omega, ⟨by repeat (first | exact HB.out | apply below_alloc | apply pw_below_drewN)⟩, ⟨fun j h1 h2 => if e : j = x then by rw [e]; exact ⟨hq0, by simpa using hq1, by simpa using hq2⟩ else HA.out j h1 (by omega)⟩⟩
              case measure => simp [intOf]; omega
      · go_wp2
        go_ret
        exact ⟨true, rfl, HB.out, iff_of_true rfl ⟨HE.out, fun y h1 h2 => HA.out y h1 (by omega)⟩⟩

end Go.Proofs.Ytophfoenaekfjaa

