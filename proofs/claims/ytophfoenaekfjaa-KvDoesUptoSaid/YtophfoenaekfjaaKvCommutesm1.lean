/- The reference's Same, of results and of states; no condition. -/
import Derived.Test.YtophfoenaekfjaaKvKeepsm8
import Derived.StillTailTactics
namespace Go.Proofs.Ytophfoenaekfjaa
open Go.RowKit Go.Proofs.YtophfoenaekfjaaW.PrintWords Go.Proofs.YtophfoenaekfjaaW.PrintLast Go.Proofs.YtophfoenaekfjaaW.PrintMore Go.Proofs.Ytophfoenaekfjaa.PSnapEncodes
set_option linter.unusedVariables false
set_option linter.unusedSimpArgs false

def sameRB (a b : Int) (l l' : List Int) : Bool := (a == b) && sameB l l'
theorem sameRB_iff {a b : Int} {l l' : List Int} : sameRB a b l l' = true ↔ a = b ∧ sameB l l' = true := by simp [sameRB]
set_option maxHeartbeats 4000000 in
set_option maxRecDepth 100000 in
theorem ref07_SameResult (a b : Int) (A B : Option Addr) (c d : Nat) (l l' : List Int) (w : World) (h0 : CB w A l) (h1 : CB w B l') :
    Calls Try.prog 44 #[.agg #[.int .i64 a, .slice A l.length c], .agg #[.int .i64 b, .slice B l'.length d]] w fun e w' => e = .returned (.bool (sameRB a b l l')) ∧ Below w.heap.size w w' := by
  have H0 := Aside0.mk h0
  have H1 := Aside0.mk h1
  have HB : ∀ o o' : Obj, Aside0 (Below w.heap.size w ((w.alloc o).alloc o')) := fun o o' => ⟨below_alloc (below_alloc (Below.refl _ w) o) o'⟩
  have HB' := Aside0.mk HB
  clear h0 h1 HB
  cases hq : a == b with
  | false =>
    have HR := Aside0.mk (show sameRB a b l l' = false by simp only [sameRB, hq, Bool.false_and])
    go_enter Try.func44, Try.ntmps44
    go_wp2
    go_ret
    exact ⟨by rw [HR.out]; rfl, (HB'.out _ _).out⟩
  | true =>
    have HR := Aside0.mk (show sameRB a b l l' = sameB l l' by simp only [sameRB, hq, Bool.true_and])
    go_enter Try.func44, Try.ntmps44
    go_wp2_with (first | (go_at_call 22; refine (ref01_Same _ _ _ _ _ _ _ (Kd.C_below H0.out (HB'.out _ _).out) (Kd.C_below H1.out (HB'.out _ _).out)).mono ?_; rintro e w1 ⟨rfl, ⟨nq, rfl⟩⟩))
    go_ret
    exact ⟨by rw [HR.out]; rfl, pw_below_drewN (HB'.out _ _).out _⟩

theorem below_of_alloc2 {w W : World} {o o' : Obj} (h : Below (w.heap.size + 2) ((w.alloc o).alloc o') W) : Below w.heap.size w W := (below_alloc (below_alloc (Below.refl _ w) o) o').trans (h.mono (by omega))
theorem C_old2 {α : Type} {d : Kd α} {w W : World} {A : Option Addr} {n : Nat} {xs : List α} {o o' : Obj} (h : d.C w A n xs) (hb : Below (w.heap.size + 2) ((w.alloc o).alloc o') W) : d.C W A n xs := Kd.C_below h (below_of_alloc2 hb)
theorem box_cellA {w W : World} {cs : Array Value} {t : TypeId} {o' : Obj} (h : Below (w.heap.size + 2) ((w.alloc (.cells cs t)).alloc o') W) (j : Nat) (v : Value) (hv : cs[j]? = some v) : W.cell? ⟨w.heap.size, j, none⟩ = some v :=
  (h.cell (p := ⟨w.heap.size, j, none⟩) (by show w.heap.size < w.heap.size + 2; omega)).trans ((blk_cell (blk_below (heap_alloc_new w (.cells cs t)) (below_alloc (Below.refl _ _) o')) j).trans hv)
theorem box_cellB {w W : World} {cs : Array Value} {t : TypeId} {o : Obj} (h : Below (w.heap.size + 2) ((w.alloc o).alloc (.cells cs t)) W) (j : Nat) (v : Value) (hv : cs[j]? = some v) : W.cell? ⟨w.heap.size + 1, j, none⟩ = some v :=
  (h.cell (p := ⟨w.heap.size + 1, j, none⟩) (by show w.heap.size + 1 < w.heap.size + 2; omega)).trans (by
    have e := heap_alloc_new (w.alloc o) (.cells cs t)
    rw [show (w.alloc o).heap.size = w.heap.size + 1 by simp] at e
    exact (blk_cell e j).trans hv)
structure sameA (a0 b0 : Int) (l1 l1' : List S72) (l2 l2' : List S87) (l3 l3' : List S97) : Prop where
  slot : a0 = b0
  ent : sameE l1 l1'
  lea : sameL l2 l2'
  ses : sameS l3 l3'
set_option maxHeartbeats 4000000 in
set_option maxRecDepth 100000 in
theorem ref09_Same (a0 b0 : Int) (A1 A2 A3 B1 B2 B3 : Option Addr) (c1 c2 c3 d1 d2 d3 : Nat) (l1 l1' : List S72) (l2 l2' : List S87) (l3 l3' : List S97) (w : World) (h1 : Kd.C k72 w A1 l1.length l1) (h2 : Kd.C k87 w A2 l2.length l2) (h3 : Kd.C k97 w A3 l3.length l3) (g1 : Kd.C k72 w B1 l1'.length l1') (g2 : Kd.C k87 w B2 l2'.length l2') (g3 : Kd.C k97 w B3 l3'.length l3') :
    Calls Try.prog 23 #[.agg #[.int .i64 a0, .slice A1 l1.length c1, .slice A2 l2.length c2, .slice A3 l3.length c3], .agg #[.int .i64 b0, .slice B1 l1'.length d1, .slice B2 l2'.length d2, .slice B3 l3'.length d3]] w (PostB w fun b => (b = true ↔ sameA a0 b0 l1 l1' l2 l2' l3 l3')) := by
  have hlen := h3.2.1
  have hlen' := g3.2.1
  have H1 := Aside0.mk h1
  have H2 := Aside0.mk h2
  have H3 := Aside0.mk h3
  have G1 := Aside0.mk g1
  have G2 := Aside0.mk g2
  have G3 := Aside0.mk g3
  clear h1 h2 h3 g1 g2 g3
  have HB := Aside0.mk (Below.refl (w.heap.size + 2) ((w.alloc (.cells #[.int .i64 a0, .slice A1 l1.length c1, .slice A2 l2.length c2, .slice A3 l3.length c3] 26)).alloc (.cells #[.int .i64 b0, .slice B1 l1'.length d1, .slice B2 l2'.length d2, .slice B3 l3'.length d3] 26)))
  cases hs : a0 != b0 with
  | true =>
    go_enter Try.func23, Try.ntmps23
    go_wp2
    go_ret
    exact ⟨false, rfl, below_of_alloc2 HB.out, iff_of_false (by simp) (fun h => by have e := h.slot; rw [e] at hs; simp at hs)⟩
  | false =>
    go_enter Try.func23, Try.ntmps23
    go_wp2_with fail
    refine (ref07_Same _ _ _ _ _ _ _ (C_old2 H1.out HB.out) (C_old2 G1.out HB.out)).mono ?_
    rintro e w1 ⟨b, rfl, hb, hiff⟩
    have HB1 := Aside0.mk (HB.out.trans (hb.mono (by simp)))
    have HS1 : w.heap.size + 2 ≤ w1.heap.size := by simpa using HB1.out.size
    have HI := Aside0.mk hiff
    clear hb HB hiff
    have ha0 := box_cellA HB1.out 0 _ rfl
    have hb0 := box_cellB HB1.out 0 _ rfl
    have ha1 := box_cellA HB1.out 1 _ rfl
    have hb1 := box_cellB HB1.out 1 _ rfl
    have ha2 := box_cellA HB1.out 2 _ rfl
    have hb2 := box_cellB HB1.out 2 _ rfl
    have ha3 := box_cellA HB1.out 3 _ rfl
    have hb3 := box_cellB HB1.out 3 _ rfl
    cases b with
    | false =>
      go_wp2
      go_ret
      exact ⟨false, rfl, below_of_alloc2 HB1.out, iff_of_false (by simp) (fun h => by have := HI.out.2 h.ent; cases this)⟩
    | true =>
      go_wp2_with fail
      refine (ref08_Same _ _ _ _ _ _ _ (C_old2 H2.out HB1.out) (C_old2 G2.out HB1.out)).mono ?_
      rintro e w2 ⟨b, rfl, hb, hiff⟩
      have HB2 := Aside0.mk (HB1.out.trans (hb.mono HS1))
      have HS2 : w.heap.size + 2 ≤ w2.heap.size := by simpa using HB2.out.size
      have HI2 := Aside0.mk hiff
      clear hb HB1 HS1 hiff
      clear ha0 hb0 ha1 hb1 ha2 hb2 ha3 hb3
      have ha0 := box_cellA HB2.out 0 _ rfl
      have hb0 := box_cellB HB2.out 0 _ rfl
      have ha1 := box_cellA HB2.out 1 _ rfl
      have hb1 := box_cellB HB2.out 1 _ rfl
      have ha2 := box_cellA HB2.out 2 _ rfl
      have hb2 := box_cellB HB2.out 2 _ rfl
      have ha3 := box_cellA HB2.out 3 _ rfl
      have hb3 := box_cellB HB2.out 3 _ rfl
      cases b with
      | false =>
        go_wp2
        go_ret
        exact ⟨false, rfl, below_of_alloc2 HB2.out, iff_of_false (by simp) (fun h => by have := HI2.out.2 h.lea; cases this)⟩
      | true =>
        cases hh : (l3.length : Int) != (l3'.length : Int) with
        | true =>
          have hh2 : (l3.length != l3'.length) = true := by rw [bne_iff_ne] at hh ⊢; exact fun e => hh (by rw [e])
          go_wp2
          go_ret
          exact ⟨false, rfl, below_of_alloc2 HB2.out, iff_of_false (by simp) (fun h => by have := h.ses.1; rw [bne_iff_ne] at hh; omega)⟩
        | false =>
          have hh2 : (l3.length != l3'.length) = false := by rw [bne_eq_false_iff_eq] at hh ⊢; omega
          have HE := Aside0.mk (show l3.length = l3'.length from by rw [bne_eq_false_iff_eq] at hh; omega)
          go_wp2
          go_loopw [40] (fun v wr => ∃ x : Int, v = .int .i64 x ∧ 0 ≤ x ∧ x ≤ l3.length ∧ Aside0 (Below (w.heap.size + 2) ((w.alloc (.cells #[.int .i64 a0, .slice A1 l1.length c1, .slice A2 l2.length c2, .slice A3 l3.length c3] 26)).alloc (.cells #[.int .i64 b0, .slice B1 l1'.length d1, .slice B2 l2'.length d2, .slice B3 l3'.length d3] 26)) wr) ∧ Aside0 (∀ j, 0 ≤ j → j < x → sameS1 (rd_T97 l3 j) (rd_T97 l3' j))) (fun v _ => l3.length - (intOf v).toNat)
          case atStart => exact ⟨0, rfl, by omega, by omega, HB2, ⟨fun j h1 => by omega⟩⟩
          case round =>
            clear ha0 hb0 ha1 hb1 ha2 hb2 ha3 hb3
            clear HB2 HS2 hh hh2
            obtain ⟨x, rfl, h0, hi, HB, HA⟩ := hrel
            have HS : w.heap.size + 2 ≤ wr.heap.size := by simpa using HB.out.size
            have ha3 := box_cellA HB.out 3 _ rfl
            have hb3 := box_cellB HB.out 3 _ rfl
            by_cases hlt : x < l3.length
            · have hlt' : x < l3'.length := by have := HE.out; omega
              obtain ⟨ad, A, c, e1, hx0, hx1, hx2, hx3, hl, hn⟩ := at_T97 (C_old2 H3.out HB.out) x h0 hlt
              obtain ⟨ad', A', c', e2, hy0, hy1, hy2, hy3, gl, gn⟩ := at_T97 (C_old2 G3.out HB.out) x h0 hlt'
              subst e1
              subst e2
              have HN := Aside0.mk hn
              have GN := Aside0.mk gn
              replace hy0 := pw_cell_below (below_alloc (Below.refl _ wr) (.cells #[.int .i64 (rd_T97 l3 x).f0, .int .i64 (rd_T97 l3 x).f1, .int .i64 (rd_T97 l3 x).f2.f0, .slice A (rd_T97 l3 x).f2.f1.length c] 97)) hy0
              replace hy1 := pw_cell_below (below_alloc (Below.refl _ wr) (.cells #[.int .i64 (rd_T97 l3 x).f0, .int .i64 (rd_T97 l3 x).f1, .int .i64 (rd_T97 l3 x).f2.f0, .slice A (rd_T97 l3 x).f2.f1.length c] 97)) hy1
              replace hy2 := pw_cell_below (below_alloc (Below.refl _ wr) (.cells #[.int .i64 (rd_T97 l3 x).f0, .int .i64 (rd_T97 l3 x).f1, .int .i64 (rd_T97 l3 x).f2.f0, .slice A (rd_T97 l3 x).f2.f1.length c] 97)) hy2
              replace hy3 := pw_cell_below (below_alloc (Below.refl _ wr) (.cells #[.int .i64 (rd_T97 l3 x).f0, .int .i64 (rd_T97 l3 x).f1, .int .i64 (rd_T97 l3 x).f2.f0, .slice A (rd_T97 l3 x).f2.f1.length c] 97)) hy3
              replace hb3 := pw_cell_below (below_alloc (Below.refl _ wr) (.cells #[.int .i64 (rd_T97 l3 x).f0, .int .i64 (rd_T97 l3 x).f1, .int .i64 (rd_T97 l3 x).f2.f0, .slice A (rd_T97 l3 x).f2.f1.length c] 97)) hb3
              clear hn gn
              cases hq0 : ((rd_T97 l3 x).f0 != (rd_T97 l3' x).f0) with
              | true =>
                go_wp2_with fail
                go_quiet (fail)
                go_wp2
                go_ret
                exact ⟨false, rfl, below_of_alloc2 (by repeat (first | exact HB.out | refine below1_alloc ?_ _ (by first | exact HS | (simp; omega)) | apply below1_drewN | apply Below.drew)), iff_of_false (by simp) (fun h => by have e := (h.ses.2 x h0 hlt).f0; rw [e] at hq0; simp at hq0)⟩
              | false =>
                cases hq1 : ((rd_T97 l3 x).f1 != (rd_T97 l3' x).f1) with
                | true =>
                  go_wp2_with fail
                  go_quiet (fail)
                  go_wp2
                  go_ret
                  exact ⟨false, rfl, below_of_alloc2 (by repeat (first | exact HB.out | refine below1_alloc ?_ _ (by first | exact HS | (simp; omega)) | apply below1_drewN | apply Below.drew)), iff_of_false (by simp) (fun h => by have e := (h.ses.2 x h0 hlt).f1; rw [e] at hq1; simp at hq1)⟩
                | false =>
                  cases hq2 : sameRB (rd_T97 l3 x).f2.f0 (rd_T97 l3' x).f2.f0 (rd_T97 l3 x).f2.f1 (rd_T97 l3' x).f2.f1 with
                  | false =>
                    have hg0 : (wr.alloc (.cells #[.int .i64 (rd_T97 l3 x).f0, .int .i64 (rd_T97 l3 x).f1, .int .i64 (rd_T97 l3 x).f2.f0, .slice A (rd_T97 l3 x).f2.f1.length c] 97)).cell? ⟨wr.heap.size, 0, none⟩ = some (.int .i64 (rd_T97 l3 x).f0) := (blk_cell (heap_alloc_new wr _) 0).trans rfl
                    have hg1 : (wr.alloc (.cells #[.int .i64 (rd_T97 l3 x).f0, .int .i64 (rd_T97 l3 x).f1, .int .i64 (rd_T97 l3 x).f2.f0, .slice A (rd_T97 l3 x).f2.f1.length c] 97)).cell? ⟨wr.heap.size, 1, none⟩ = some (.int .i64 (rd_T97 l3 x).f1) := (blk_cell (heap_alloc_new wr _) 1).trans rfl
                    have hg2 : (wr.alloc (.cells #[.int .i64 (rd_T97 l3 x).f0, .int .i64 (rd_T97 l3 x).f1, .int .i64 (rd_T97 l3 x).f2.f0, .slice A (rd_T97 l3 x).f2.f1.length c] 97)).cell? ⟨wr.heap.size, 2, none⟩ = some (.int .i64 (rd_T97 l3 x).f2.f0) := (blk_cell (heap_alloc_new wr _) 2).trans rfl
                    have hg3 : (wr.alloc (.cells #[.int .i64 (rd_T97 l3 x).f0, .int .i64 (rd_T97 l3 x).f1, .int .i64 (rd_T97 l3 x).f2.f0, .slice A (rd_T97 l3 x).f2.f1.length c] 97)).cell? ⟨wr.heap.size, 3, none⟩ = some (.slice A (rd_T97 l3 x).f2.f1.length c) := (blk_cell (heap_alloc_new wr _) 3).trans rfl
                    have HBW := Aside0.mk (below1_alloc HB.out (.cells #[.int .i64 (rd_T97 l3 x).f0, .int .i64 (rd_T97 l3 x).f1, .int .i64 (rd_T97 l3 x).f2.f0, .slice A (rd_T97 l3 x).f2.f1.length c] 97) HS)
                    have HSW : w.heap.size + 2 ≤ (wr.alloc (.cells #[.int .i64 (rd_T97 l3 x).f0, .int .i64 (rd_T97 l3 x).f1, .int .i64 (rd_T97 l3 x).f2.f0, .slice A (rd_T97 l3 x).f2.f1.length c] 97)).heap.size := by simp; omega
                    have HNW := Aside0.mk (Kd.C_below HN.out (below_alloc (Below.refl _ wr) (.cells #[.int .i64 (rd_T97 l3 x).f0, .int .i64 (rd_T97 l3 x).f1, .int .i64 (rd_T97 l3 x).f2.f0, .slice A (rd_T97 l3 x).f2.f1.length c] 97)))
                    have GNW := Aside0.mk (Kd.C_below GN.out (below_alloc (Below.refl _ wr) (.cells #[.int .i64 (rd_T97 l3 x).f0, .int .i64 (rd_T97 l3 x).f1, .int .i64 (rd_T97 l3 x).f2.f0, .slice A (rd_T97 l3 x).f2.f1.length c] 97)))
                    go_wp2_with fail
                    generalize wr.alloc (.cells #[.int .i64 (rd_T97 l3 x).f0, .int .i64 (rd_T97 l3 x).f1, .int .i64 (rd_T97 l3 x).f2.f0, .slice A (rd_T97 l3 x).f2.f1.length c] 97) = W at hg0 hg1 hg2 hg3 hb3 hy0 hy1 hy2 hy3 HBW HSW HNW GNW ⊢
                    go_region_held3 (fun w' => w'.cell? ⟨wr.heap.size, 0, none⟩ = some (.int .i64 (rd_T97 l3 x).f0) ∧ w'.cell? ⟨wr.heap.size, 1, none⟩ = some (.int .i64 (rd_T97 l3 x).f1) ∧ w'.cell? ⟨wr.heap.size, 2, none⟩ = some (.int .i64 (rd_T97 l3 x).f2.f0) ∧ w'.cell? ⟨wr.heap.size, 3, none⟩ = some (.slice A (rd_T97 l3 x).f2.f1.length c) ∧ w'.cell? ⟨w.heap.size + 1, 3, none⟩ = some (.slice (some ad') l3'.length d3) ∧ w'.cell? (ad'.add (x.toNat * 4)) = some (.int .i64 (rd_T97 l3' x).f0) ∧ w'.cell? ⟨(ad'.add (x.toNat * 4)).block, (ad'.add (x.toNat * 4)).off + 1, none⟩ = some (.int .i64 (rd_T97 l3' x).f1) ∧ w'.cell? ⟨(ad'.add (x.toNat * 4)).block, (ad'.add (x.toNat * 4)).off + 2, none⟩ = some (.int .i64 (rd_T97 l3' x).f2.f0) ∧ w'.cell? ⟨(ad'.add (x.toNat * 4)).block, (ad'.add (x.toNat * 4)).off + 3, none⟩ = some (.slice A' (rd_T97 l3' x).f2.f1.length c')) (first | exact ⟨hg0, hg1, hg2, hg3, hb3, hy0, hy1, hy2, hy3⟩ | exact ⟨zhg0, zhg1, zhg2, zhg3, zhb3, zhy0, zhy1, zhy2, zhy3⟩ | go_keep) (first | (go_at_call 44; (with_reducible refine (ref07_SameResult _ _ A A' c c' _ _ _ (Kd.C_below HNW.out ?hX) (Kd.C_below GNW.out ?hX)).mono ?_); (case hX => (with_reducible repeat (first | exact Below.refl _ _ | apply below_drew | apply pw_below_drewN))); rintro e w1 ⟨rfl, hb⟩; replace hb := (show Below W.heap.size W w1 from Below.trans (by (with_reducible repeat (first | exact Below.refl _ _ | apply below_drew | apply pw_below_drewN))) hb); have zhg0 := pw_cell_below hb hg0; have zhg1 := pw_cell_below hb hg1; have zhg2 := pw_cell_below hb hg2; have zhg3 := pw_cell_below hb hg3; have zhb3 := pw_cell_below hb hb3; have zhy0 := pw_cell_below hb hy0; have zhy1 := pw_cell_below hb hy1; have zhy2 := pw_cell_below hb hy2; have zhy3 := pw_cell_below hb hy3; have HB1 := Aside0.mk (HBW.out.trans (hb.mono HSW)); clear hb))
                    go_wp2
                    go_ret
                    exact ⟨false, rfl, below_of_alloc2 HB1.out, iff_of_false (by simp) (fun h => by have e := h.ses.2 x h0 hlt; have e2 := sameRB_iff.2 ⟨e.f2, e.f3⟩; rw [hq2] at e2; cases e2)⟩
                  | true =>
                    have hg0 : (wr.alloc (.cells #[.int .i64 (rd_T97 l3 x).f0, .int .i64 (rd_T97 l3 x).f1, .int .i64 (rd_T97 l3 x).f2.f0, .slice A (rd_T97 l3 x).f2.f1.length c] 97)).cell? ⟨wr.heap.size, 0, none⟩ = some (.int .i64 (rd_T97 l3 x).f0) := (blk_cell (heap_alloc_new wr _) 0).trans rfl
                    have hg1 : (wr.alloc (.cells #[.int .i64 (rd_T97 l3 x).f0, .int .i64 (rd_T97 l3 x).f1, .int .i64 (rd_T97 l3 x).f2.f0, .slice A (rd_T97 l3 x).f2.f1.length c] 97)).cell? ⟨wr.heap.size, 1, none⟩ = some (.int .i64 (rd_T97 l3 x).f1) := (blk_cell (heap_alloc_new wr _) 1).trans rfl
                    have hg2 : (wr.alloc (.cells #[.int .i64 (rd_T97 l3 x).f0, .int .i64 (rd_T97 l3 x).f1, .int .i64 (rd_T97 l3 x).f2.f0, .slice A (rd_T97 l3 x).f2.f1.length c] 97)).cell? ⟨wr.heap.size, 2, none⟩ = some (.int .i64 (rd_T97 l3 x).f2.f0) := (blk_cell (heap_alloc_new wr _) 2).trans rfl
                    have hg3 : (wr.alloc (.cells #[.int .i64 (rd_T97 l3 x).f0, .int .i64 (rd_T97 l3 x).f1, .int .i64 (rd_T97 l3 x).f2.f0, .slice A (rd_T97 l3 x).f2.f1.length c] 97)).cell? ⟨wr.heap.size, 3, none⟩ = some (.slice A (rd_T97 l3 x).f2.f1.length c) := (blk_cell (heap_alloc_new wr _) 3).trans rfl
                    have HBW := Aside0.mk (below1_alloc HB.out (.cells #[.int .i64 (rd_T97 l3 x).f0, .int .i64 (rd_T97 l3 x).f1, .int .i64 (rd_T97 l3 x).f2.f0, .slice A (rd_T97 l3 x).f2.f1.length c] 97) HS)
                    have HSW : w.heap.size + 2 ≤ (wr.alloc (.cells #[.int .i64 (rd_T97 l3 x).f0, .int .i64 (rd_T97 l3 x).f1, .int .i64 (rd_T97 l3 x).f2.f0, .slice A (rd_T97 l3 x).f2.f1.length c] 97)).heap.size := by simp; omega
                    have HNW := Aside0.mk (Kd.C_below HN.out (below_alloc (Below.refl _ wr) (.cells #[.int .i64 (rd_T97 l3 x).f0, .int .i64 (rd_T97 l3 x).f1, .int .i64 (rd_T97 l3 x).f2.f0, .slice A (rd_T97 l3 x).f2.f1.length c] 97)))
                    have GNW := Aside0.mk (Kd.C_below GN.out (below_alloc (Below.refl _ wr) (.cells #[.int .i64 (rd_T97 l3 x).f0, .int .i64 (rd_T97 l3 x).f1, .int .i64 (rd_T97 l3 x).f2.f0, .slice A (rd_T97 l3 x).f2.f1.length c] 97)))
                    go_wp2_with fail
                    generalize wr.alloc (.cells #[.int .i64 (rd_T97 l3 x).f0, .int .i64 (rd_T97 l3 x).f1, .int .i64 (rd_T97 l3 x).f2.f0, .slice A (rd_T97 l3 x).f2.f1.length c] 97) = W at hg0 hg1 hg2 hg3 hb3 hy0 hy1 hy2 hy3 HBW HSW HNW GNW ⊢
                    go_region_held3 (fun w' => w'.cell? ⟨wr.heap.size, 0, none⟩ = some (.int .i64 (rd_T97 l3 x).f0) ∧ w'.cell? ⟨wr.heap.size, 1, none⟩ = some (.int .i64 (rd_T97 l3 x).f1) ∧ w'.cell? ⟨wr.heap.size, 2, none⟩ = some (.int .i64 (rd_T97 l3 x).f2.f0) ∧ w'.cell? ⟨wr.heap.size, 3, none⟩ = some (.slice A (rd_T97 l3 x).f2.f1.length c) ∧ w'.cell? ⟨w.heap.size + 1, 3, none⟩ = some (.slice (some ad') l3'.length d3) ∧ w'.cell? (ad'.add (x.toNat * 4)) = some (.int .i64 (rd_T97 l3' x).f0) ∧ w'.cell? ⟨(ad'.add (x.toNat * 4)).block, (ad'.add (x.toNat * 4)).off + 1, none⟩ = some (.int .i64 (rd_T97 l3' x).f1) ∧ w'.cell? ⟨(ad'.add (x.toNat * 4)).block, (ad'.add (x.toNat * 4)).off + 2, none⟩ = some (.int .i64 (rd_T97 l3' x).f2.f0) ∧ w'.cell? ⟨(ad'.add (x.toNat * 4)).block, (ad'.add (x.toNat * 4)).off + 3, none⟩ = some (.slice A' (rd_T97 l3' x).f2.f1.length c')) (first | exact ⟨hg0, hg1, hg2, hg3, hb3, hy0, hy1, hy2, hy3⟩ | exact ⟨zhg0, zhg1, zhg2, zhg3, zhb3, zhy0, zhy1, zhy2, zhy3⟩ | go_keep) (first | (go_at_call 44; (with_reducible refine (ref07_SameResult _ _ A A' c c' _ _ _ (Kd.C_below HNW.out ?hX) (Kd.C_below GNW.out ?hX)).mono ?_); (case hX => (with_reducible repeat (first | exact Below.refl _ _ | apply below_drew | apply pw_below_drewN))); rintro e w1 ⟨rfl, hb⟩; replace hb := (show Below W.heap.size W w1 from Below.trans (by (with_reducible repeat (first | exact Below.refl _ _ | apply below_drew | apply pw_below_drewN))) hb); have zhg0 := pw_cell_below hb hg0; have zhg1 := pw_cell_below hb hg1; have zhg2 := pw_cell_below hb hg2; have zhg3 := pw_cell_below hb hg3; have zhb3 := pw_cell_below hb hb3; have zhy0 := pw_cell_below hb hy0; have zhy1 := pw_cell_below hb hy1; have zhy2 := pw_cell_below hb hy2; have zhy3 := pw_cell_below hb hy3; have HB1 := Aside0.mk (HBW.out.trans (hb.mono HSW)); clear hb))
                    go_wp2
                    go_roundw
                    case rel => exact ⟨x + 1, by go_num, by omega, by omega, HB1, ⟨fun j h1 h2 => if e : j = x then by rw [e]; exact ⟨by simpa using hq0, by simpa using hq1, (sameRB_iff.1 hq2).1, (sameRB_iff.1 hq2).2⟩ else HA.out j h1 (by omega)⟩⟩
                    case measure => simp [intOf]; omega
            · go_wp2
              go_ret
              exact ⟨true, rfl, below_of_alloc2 HB.out, iff_of_true rfl ⟨by simpa using hs, HI.out.1 (by simp), HI2.out.1 (by simp), HE.out, fun y h1 h2 => HA.out y h1 (by omega)⟩⟩

end Go.Proofs.Ytophfoenaekfjaa

