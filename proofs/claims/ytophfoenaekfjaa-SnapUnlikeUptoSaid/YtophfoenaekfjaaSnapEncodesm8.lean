/- Parts of the proof of SnapEncodes: The reference's Same, of results and of states; no condition. The law SnapEncodes. What reads as data is of our kinds. Arguments opened: a state, a text. -/
import Derived.Test.YtophfoenaekfjaaSnapEncodesm7
import Derived.Test.YtophfoenaekfjaaSnapEncodesm1
import Derived.Test.YtophfoenaekfjaaSnapEncodesm6
import Derived.StillTailTactics
import Derived.Outline
import Derived.Test.YtophfoenaekfjaaRows
import Derived.WalkKit
import Derived.ProofKit
import Derived.OpenShut
import Derived.Lib.SmallJoins
namespace Go.Proofs.Ytophfoenaekfjaa
open Go.RowKit Go.Proofs.YtophfoenaekfjaaW.PrintWords Go.Proofs.YtophfoenaekfjaaW.PrintLast Go.Proofs.YtophfoenaekfjaaW.PrintMore Go.Proofs.Ytophfoenaekfjaa.PSnapEncodes
set_option linter.unusedVariables false
set_option linter.unusedSimpArgs false

def sameRB (a b : Int) (l l' : List Int) : Bool := (a == b) && sameB l l'
theorem sameRB_iff {a b : Int} {l l' : List Int} : sameRB a b l l' = true ↔ a = b ∧ sameB l l' = true := by simp [sameRB]
set_option maxHeartbeats 4000000 in
set_option maxRecDepth 100000 in
theorem ref07_SameResult (a b : Int) (A B : Option Addr) (c d : Nat) (l l' : List Int) (w : World) (h0 : CB w A l) (h1 : CB w B l') :
    Calls Try.prog 44 #[.agg #[.int .i64 a, .slice A l.length c], .agg #[.int .i64 b, .slice B l'.length d]] w fun e w' => e = .returned (.bool (sameRB a b l l')) ∧ Below w.heap.size w w' := by
  have H0 := Aside0.mk h0
  have H1 := Aside0.mk h1
  have HB : ∀ o o' : Obj, Aside0 (Below w.heap.size w ((w.alloc o).alloc o')) := fun o o' => ⟨below_alloc (below_alloc (Below.refl _ w) o) o'⟩
  have HB' := Aside0.mk HB
  clear h0 h1 HB
  cases hq : a == b with
  | false =>
    have HR := Aside0.mk (show sameRB a b l l' = false by simp only [sameRB, hq, Bool.false_and])
    go_enter Try.func44, Try.ntmps44
    go_wp2
    go_ret
    exact ⟨by rw [HR.out]; rfl, (HB'.out _ _).out⟩
  | true =>
    have HR := Aside0.mk (show sameRB a b l l' = sameB l l' by simp only [sameRB, hq, Bool.true_and])
    go_enter Try.func44, Try.ntmps44
    go_wp2_with (first | (go_at_call 22; refine (ref01_Same _ _ _ _ _ _ _ (Kd.C_below H0.out (HB'.out _ _).out) (Kd.C_below H1.out (HB'.out _ _).out)).mono ?_; rintro e w1 ⟨rfl, ⟨nq, rfl⟩⟩))
    go_ret
    exact ⟨by rw [HR.out]; rfl, pw_below_drewN (HB'.out _ _).out _⟩

theorem below_of_alloc2 {w W : World} {o o' : Obj} (h : Below (w.heap.size + 2) ((w.alloc o).alloc o') W) : Below w.heap.size w W := (below_alloc (below_alloc (Below.refl _ w) o) o').trans (h.mono (by omega))
theorem C_old2 {α : Type} {d : Kd α} {w W : World} {A : Option Addr} {n : Nat} {xs : List α} {o o' : Obj} (h : d.C w A n xs) (hb : Below (w.heap.size + 2) ((w.alloc o).alloc o') W) : d.C W A n xs := Kd.C_below h (below_of_alloc2 hb)
theorem box_cellA {w W : World} {cs : Array Value} {t : TypeId} {o' : Obj} (h : Below (w.heap.size + 2) ((w.alloc (.cells cs t)).alloc o') W) (j : Nat) (v : Value) (hv : cs[j]? = some v) : W.cell? ⟨w.heap.size, j, none⟩ = some v :=
  (h.cell (p := ⟨w.heap.size, j, none⟩) (by show w.heap.size < w.heap.size + 2; omega)).trans ((blk_cell (blk_below (heap_alloc_new w (.cells cs t)) (below_alloc (Below.refl _ _) o')) j).trans hv)
theorem box_cellB {w W : World} {cs : Array Value} {t : TypeId} {o : Obj} (h : Below (w.heap.size + 2) ((w.alloc o).alloc (.cells cs t)) W) (j : Nat) (v : Value) (hv : cs[j]? = some v) : W.cell? ⟨w.heap.size + 1, j, none⟩ = some v :=
  (h.cell (p := ⟨w.heap.size + 1, j, none⟩) (by show w.heap.size + 1 < w.heap.size + 2; omega)).trans (by
    have e := heap_alloc_new (w.alloc o) (.cells cs t)
    rw [show (w.alloc o).heap.size = w.heap.size + 1 by simp] at e
    exact (blk_cell e j).trans hv)
structure sameA (a0 b0 : Int) (l1 l1' : List S72) (l2 l2' : List S87) (l3 l3' : List S97) : Prop where
  slot : a0 = b0
  ent : sameE l1 l1'
  lea : sameL l2 l2'
  ses : sameS l3 l3'
set_option maxHeartbeats 4000000 in
set_option maxRecDepth 100000 in
theorem ref09_Same (a0 b0 : Int) (A1 A2 A3 B1 B2 B3 : Option Addr) (c1 c2 c3 d1 d2 d3 : Nat) (l1 l1' : List S72) (l2 l2' : List S87) (l3 l3' : List S97) (w : World) (h1 : Kd.C k72 w A1 l1.length l1) (h2 : Kd.C k87 w A2 l2.length l2) (h3 : Kd.C k97 w A3 l3.length l3) (g1 : Kd.C k72 w B1 l1'.length l1') (g2 : Kd.C k87 w B2 l2'.length l2') (g3 : Kd.C k97 w B3 l3'.length l3') :
    Calls Try.prog 23 #[.agg #[.int .i64 a0, .slice A1 l1.length c1, .slice A2 l2.length c2, .slice A3 l3.length c3], .agg #[.int .i64 b0, .slice B1 l1'.length d1, .slice B2 l2'.length d2, .slice B3 l3'.length d3]] w (PostB w fun b => (b = true ↔ sameA a0 b0 l1 l1' l2 l2' l3 l3')) := by
  have hlen := h3.2.1
  have hlen' := g3.2.1
  have H1 := Aside0.mk h1
  have H2 := Aside0.mk h2
  have H3 := Aside0.mk h3
  have G1 := Aside0.mk g1
  have G2 := Aside0.mk g2
  have G3 := Aside0.mk g3
  clear h1 h2 h3 g1 g2 g3
  have HB := Aside0.mk (Below.refl (w.heap.size + 2) ((w.alloc (.cells #[.int .i64 a0, .slice A1 l1.length c1, .slice A2 l2.length c2, .slice A3 l3.length c3] 26)).alloc (.cells #[.int .i64 b0, .slice B1 l1'.length d1, .slice B2 l2'.length d2, .slice B3 l3'.length d3] 26)))
  cases hs : a0 != b0 with
  | true =>
    go_enter Try.func23, Try.ntmps23
    go_wp2
    go_ret
    exact ⟨false, rfl, below_of_alloc2 HB.out, iff_of_false (by simp) (fun h => by have e := h.slot; rw [e] at hs; simp at hs)⟩
  | false =>
    go_enter Try.func23, Try.ntmps23
    go_wp2_with fail
    refine (ref07_Same _ _ _ _ _ _ _ (C_old2 H1.out HB.out) (C_old2 G1.out HB.out)).mono ?_
    rintro e w1 ⟨b, rfl, hb, hiff⟩
    have HB1 := Aside0.mk (HB.out.trans (hb.mono (by simp)))
    have HS1 : w.heap.size + 2 ≤ w1.heap.size := by simpa using HB1.out.size
    have HI := Aside0.mk hiff
    clear hb HB hiff
    have ha0 := box_cellA HB1.out 0 _ rfl
    have hb0 := box_cellB HB1.out 0 _ rfl
    have ha1 := box_cellA HB1.out 1 _ rfl
    have hb1 := box_cellB HB1.out 1 _ rfl
    have ha2 := box_cellA HB1.out 2 _ rfl
    have hb2 := box_cellB HB1.out 2 _ rfl
    have ha3 := box_cellA HB1.out 3 _ rfl
    have hb3 := box_cellB HB1.out 3 _ rfl
    cases b with
    | false =>
      go_wp2
      go_ret
      exact ⟨false, rfl, below_of_alloc2 HB1.out, iff_of_false (by simp) (fun h => by have := HI.out.2 h.ent; cases this)⟩
    | true =>
      go_wp2_with fail
      refine (ref08_Same _ _ _ _ _ _ _ (C_old2 H2.out HB1.out) (C_old2 G2.out HB1.out)).mono ?_
      rintro e w2 ⟨b, rfl, hb, hiff⟩
      have HB2 := Aside0.mk (HB1.out.trans (hb.mono HS1))
      have HS2 : w.heap.size + 2 ≤ w2.heap.size := by simpa using HB2.out.size
      have HI2 := Aside0.mk hiff
      clear hb HB1 HS1 hiff
      clear ha0 hb0 ha1 hb1 ha2 hb2 ha3 hb3
      have ha0 := box_cellA HB2.out 0 _ rfl
      have hb0 := box_cellB HB2.out 0 _ rfl
      have ha1 := box_cellA HB2.out 1 _ rfl
      have hb1 := box_cellB HB2.out 1 _ rfl
      have ha2 := box_cellA HB2.out 2 _ rfl
      have hb2 := box_cellB HB2.out 2 _ rfl
      have ha3 := box_cellA HB2.out 3 _ rfl
      have hb3 := box_cellB HB2.out 3 _ rfl
      cases b with
      | false =>
        go_wp2
        go_ret
        exact ⟨false, rfl, below_of_alloc2 HB2.out, iff_of_false (by simp) (fun h => by have := HI2.out.2 h.lea; cases this)⟩
      | true =>
        cases hh : (l3.length : Int) != (l3'.length : Int) with
        | true =>
          have hh2 : (l3.length != l3'.length) = true := by rw [bne_iff_ne] at hh ⊢; exact fun e => hh (by rw [e])
          go_wp2
          go_ret
          exact ⟨false, rfl, below_of_alloc2 HB2.out, iff_of_false (by simp) (fun h => by have := h.ses.1; rw [bne_iff_ne] at hh; omega)⟩
        | false =>
          have hh2 : (l3.length != l3'.length) = false := by rw [bne_eq_false_iff_eq] at hh ⊢; omega
          have HE := Aside0.mk (show l3.length = l3'.length from by rw [bne_eq_false_iff_eq] at hh; omega)
          go_wp2
          go_loopw [40] (fun v wr => ∃ x : Int, v = .int .i64 x ∧ 0 ≤ x ∧ x ≤ l3.length ∧ Aside0 (Below (w.heap.size + 2) ((w.alloc (.cells #[.int .i64 a0, .slice A1 l1.length c1, .slice A2 l2.length c2, .slice A3 l3.length c3] 26)).alloc (.cells #[.int .i64 b0, .slice B1 l1'.length d1, .slice B2 l2'.length d2, .slice B3 l3'.length d3] 26)) wr) ∧ Aside0 (∀ j, 0 ≤ j → j < x → sameS1 (rd_T97 l3 j) (rd_T97 l3' j))) (fun v _ => l3.length - (intOf v).toNat)
          case atStart => exact ⟨0, rfl, by omega, by omega, HB2, ⟨fun j h1 => by omega⟩⟩
          case round =>
            clear ha0 hb0 ha1 hb1 ha2 hb2 ha3 hb3
            clear HB2 HS2 hh hh2
            obtain ⟨x, rfl, h0, hi, HB, HA⟩ := hrel
            have HS : w.heap.size + 2 ≤ wr.heap.size := by simpa using HB.out.size
            have ha3 := box_cellA HB.out 3 _ rfl
            have hb3 := box_cellB HB.out 3 _ rfl
            by_cases hlt : x < l3.length
            · have hlt' : x < l3'.length := by have := HE.out; omega
              obtain ⟨ad, A, c, e1, hx0, hx1, hx2, hx3, hl, hn⟩ := at_T97 (C_old2 H3.out HB.out) x h0 hlt
              obtain ⟨ad', A', c', e2, hy0, hy1, hy2, hy3, gl, gn⟩ := at_T97 (C_old2 G3.out HB.out) x h0 hlt'
              subst e1
              subst e2
              have HN := Aside0.mk hn
              have GN := Aside0.mk gn
              replace hy0 := pw_cell_below (below_alloc (Below.refl _ wr) (.cells #[.int .i64 (rd_T97 l3 x).f0, .int .i64 (rd_T97 l3 x).f1, .int .i64 (rd_T97 l3 x).f2.f0, .slice A (rd_T97 l3 x).f2.f1.length c] 97)) hy0
              replace hy1 := pw_cell_below (below_alloc (Below.refl _ wr) (.cells #[.int .i64 (rd_T97 l3 x).f0, .int .i64 (rd_T97 l3 x).f1, .int .i64 (rd_T97 l3 x).f2.f0, .slice A (rd_T97 l3 x).f2.f1.length c] 97)) hy1
              replace hy2 := pw_cell_below (below_alloc (Below.refl _ wr) (.cells #[.int .i64 (rd_T97 l3 x).f0, .int .i64 (rd_T97 l3 x).f1, .int .i64 (rd_T97 l3 x).f2.f0, .slice A (rd_T97 l3 x).f2.f1.length c] 97)) hy2
              replace hy3 := pw_cell_below (below_alloc (Below.refl _ wr) (.cells #[.int .i64 (rd_T97 l3 x).f0, .int .i64 (rd_T97 l3 x).f1, .int .i64 (rd_T97 l3 x).f2.f0, .slice A (rd_T97 l3 x).f2.f1.length c] 97)) hy3
              replace hb3 := pw_cell_below (below_alloc (Below.refl _ wr) (.cells #[.int .i64 (rd_T97 l3 x).f0, .int .i64 (rd_T97 l3 x).f1, .int .i64 (rd_T97 l3 x).f2.f0, .slice A (rd_T97 l3 x).f2.f1.length c] 97)) hb3
              clear hn gn
              cases hq0 : ((rd_T97 l3 x).f0 != (rd_T97 l3' x).f0) with
              | true =>
                go_wp2_with fail
                go_quiet (fail)
                go_wp2
                go_ret
                exact ⟨false, rfl, below_of_alloc2 (by repeat (first | exact HB.out | refine below1_alloc ?_ _ (by first | exact HS | (simp; omega)) | apply below1_drewN | apply Below.drew)), iff_of_false (by simp) (fun h => by have e := (h.ses.2 x h0 hlt).f0; rw [e] at hq0; simp at hq0)⟩
              | false =>
                cases hq1 : ((rd_T97 l3 x).f1 != (rd_T97 l3' x).f1) with
                | true =>
                  go_wp2_with fail
                  go_quiet (fail)
                  go_wp2
                  go_ret
                  exact ⟨false, rfl, below_of_alloc2 (by repeat (first | exact HB.out | refine below1_alloc ?_ _ (by first | exact HS | (simp; omega)) | apply below1_drewN | apply Below.drew)), iff_of_false (by simp) (fun h => by have e := (h.ses.2 x h0 hlt).f1; rw [e] at hq1; simp at hq1)⟩
                | false =>
                  cases hq2 : sameRB (rd_T97 l3 x).f2.f0 (rd_T97 l3' x).f2.f0 (rd_T97 l3 x).f2.f1 (rd_T97 l3' x).f2.f1 with
                  | false =>
                    have hg0 : (wr.alloc (.cells #[.int .i64 (rd_T97 l3 x).f0, .int .i64 (rd_T97 l3 x).f1, .int .i64 (rd_T97 l3 x).f2.f0, .slice A (rd_T97 l3 x).f2.f1.length c] 97)).cell? ⟨wr.heap.size, 0, none⟩ = some (.int .i64 (rd_T97 l3 x).f0) := (blk_cell (heap_alloc_new wr _) 0).trans rfl
                    have hg1 : (wr.alloc (.cells #[.int .i64 (rd_T97 l3 x).f0, .int .i64 (rd_T97 l3 x).f1, .int .i64 (rd_T97 l3 x).f2.f0, .slice A (rd_T97 l3 x).f2.f1.length c] 97)).cell? ⟨wr.heap.size, 1, none⟩ = some (.int .i64 (rd_T97 l3 x).f1) := (blk_cell (heap_alloc_new wr _) 1).trans rfl
                    have hg2 : (wr.alloc (.cells #[.int .i64 (rd_T97 l3 x).f0, .int .i64 (rd_T97 l3 x).f1, .int .i64 (rd_T97 l3 x).f2.f0, .slice A (rd_T97 l3 x).f2.f1.length c] 97)).cell? ⟨wr.heap.size, 2, none⟩ = some (.int .i64 (rd_T97 l3 x).f2.f0) := (blk_cell (heap_alloc_new wr _) 2).trans rfl
                    have hg3 : (wr.alloc (.cells #[.int .i64 (rd_T97 l3 x).f0, .int .i64 (rd_T97 l3 x).f1, .int .i64 (rd_T97 l3 x).f2.f0, .slice A (rd_T97 l3 x).f2.f1.length c] 97)).cell? ⟨wr.heap.size, 3, none⟩ = some (.slice A (rd_T97 l3 x).f2.f1.length c) := (blk_cell (heap_alloc_new wr _) 3).trans rfl
                    have HBW := Aside0.mk (below1_alloc HB.out (.cells #[.int .i64 (rd_T97 l3 x).f0, .int .i64 (rd_T97 l3 x).f1, .int .i64 (rd_T97 l3 x).f2.f0, .slice A (rd_T97 l3 x).f2.f1.length c] 97) HS)
                    have HSW : w.heap.size + 2 ≤ (wr.alloc (.cells #[.int .i64 (rd_T97 l3 x).f0, .int .i64 (rd_T97 l3 x).f1, .int .i64 (rd_T97 l3 x).f2.f0, .slice A (rd_T97 l3 x).f2.f1.length c] 97)).heap.size := by simp; omega
                    have HNW := Aside0.mk (Kd.C_below HN.out (below_alloc (Below.refl _ wr) (.cells #[.int .i64 (rd_T97 l3 x).f0, .int .i64 (rd_T97 l3 x).f1, .int .i64 (rd_T97 l3 x).f2.f0, .slice A (rd_T97 l3 x).f2.f1.length c] 97)))
                    have GNW := Aside0.mk (Kd.C_below GN.out (below_alloc (Below.refl _ wr) (.cells #[.int .i64 (rd_T97 l3 x).f0, .int .i64 (rd_T97 l3 x).f1, .int .i64 (rd_T97 l3 x).f2.f0, .slice A (rd_T97 l3 x).f2.f1.length c] 97)))
                    go_wp2_with fail
                    generalize wr.alloc (.cells #[.int .i64 (rd_T97 l3 x).f0, .int .i64 (rd_T97 l3 x).f1, .int .i64 (rd_T97 l3 x).f2.f0, .slice A (rd_T97 l3 x).f2.f1.length c] 97) = W at hg0 hg1 hg2 hg3 hb3 hy0 hy1 hy2 hy3 HBW HSW HNW GNW ⊢
                    go_region_held3 (fun w' => w'.cell? ⟨wr.heap.size, 0, none⟩ = some (.int .i64 (rd_T97 l3 x).f0) ∧ w'.cell? ⟨wr.heap.size, 1, none⟩ = some (.int .i64 (rd_T97 l3 x).f1) ∧ w'.cell? ⟨wr.heap.size, 2, none⟩ = some (.int .i64 (rd_T97 l3 x).f2.f0) ∧ w'.cell? ⟨wr.heap.size, 3, none⟩ = some (.slice A (rd_T97 l3 x).f2.f1.length c) ∧ w'.cell? ⟨w.heap.size + 1, 3, none⟩ = some (.slice (some ad') l3'.length d3) ∧ w'.cell? (ad'.add (x.toNat * 4)) = some (.int .i64 (rd_T97 l3' x).f0) ∧ w'.cell? ⟨(ad'.add (x.toNat * 4)).block, (ad'.add (x.toNat * 4)).off + 1, none⟩ = some (.int .i64 (rd_T97 l3' x).f1) ∧ w'.cell? ⟨(ad'.add (x.toNat * 4)).block, (ad'.add (x.toNat * 4)).off + 2, none⟩ = some (.int .i64 (rd_T97 l3' x).f2.f0) ∧ w'.cell? ⟨(ad'.add (x.toNat * 4)).block, (ad'.add (x.toNat * 4)).off + 3, none⟩ = some (.slice A' (rd_T97 l3' x).f2.f1.length c')) (first | exact ⟨hg0, hg1, hg2, hg3, hb3, hy0, hy1, hy2, hy3⟩ | exact ⟨zhg0, zhg1, zhg2, zhg3, zhb3, zhy0, zhy1, zhy2, zhy3⟩ | go_keep) (first | (go_at_call 44; (with_reducible refine (ref07_SameResult _ _ A A' c c' _ _ _ (Kd.C_below HNW.out ?hX) (Kd.C_below GNW.out ?hX)).mono ?_); (case hX => (with_reducible repeat (first | exact Below.refl _ _ | apply below_drew | apply pw_below_drewN))); rintro e w1 ⟨rfl, hb⟩; replace hb := (show Below W.heap.size W w1 from Below.trans (by (with_reducible repeat (first | exact Below.refl _ _ | apply below_drew | apply pw_below_drewN))) hb); have zhg0 := pw_cell_below hb hg0; have zhg1 := pw_cell_below hb hg1; have zhg2 := pw_cell_below hb hg2; have zhg3 := pw_cell_below hb hg3; have zhb3 := pw_cell_below hb hb3; have zhy0 := pw_cell_below hb hy0; have zhy1 := pw_cell_below hb hy1; have zhy2 := pw_cell_below hb hy2; have zhy3 := pw_cell_below hb hy3; have HB1 := Aside0.mk (HBW.out.trans (hb.mono HSW)); clear hb))
                    go_wp2
                    go_ret
                    exact ⟨false, rfl, below_of_alloc2 HB1.out, iff_of_false (by simp) (fun h => by have e := h.ses.2 x h0 hlt; have e2 := sameRB_iff.2 ⟨e.f2, e.f3⟩; rw [hq2] at e2; cases e2)⟩
                  | true =>
                    have hg0 : (wr.alloc (.cells #[.int .i64 (rd_T97 l3 x).f0, .int .i64 (rd_T97 l3 x).f1, .int .i64 (rd_T97 l3 x).f2.f0, .slice A (rd_T97 l3 x).f2.f1.length c] 97)).cell? ⟨wr.heap.size, 0, none⟩ = some (.int .i64 (rd_T97 l3 x).f0) := (blk_cell (heap_alloc_new wr _) 0).trans rfl
                    have hg1 : (wr.alloc (.cells #[.int .i64 (rd_T97 l3 x).f0, .int .i64 (rd_T97 l3 x).f1, .int .i64 (rd_T97 l3 x).f2.f0, .slice A (rd_T97 l3 x).f2.f1.length c] 97)).cell? ⟨wr.heap.size, 1, none⟩ = some (.int .i64 (rd_T97 l3 x).f1) := (blk_cell (heap_alloc_new wr _) 1).trans rfl
                    have hg2 : (wr.alloc (.cells #[.int .i64 (rd_T97 l3 x).f0, .int .i64 (rd_T97 l3 x).f1, .int .i64 (rd_T97 l3 x).f2.f0, .slice A (rd_T97 l3 x).f2.f1.length c] 97)).cell? ⟨wr.heap.size, 2, none⟩ = some (.int .i64 (rd_T97 l3 x).f2.f0) := (blk_cell (heap_alloc_new wr _) 2).trans rfl
                    have hg3 : (wr.alloc (.cells #[.int .i64 (rd_T97 l3 x).f0, .int .i64 (rd_T97 l3 x).f1, .int .i64 (rd_T97 l3 x).f2.f0, .slice A (rd_T97 l3 x).f2.f1.length c] 97)).cell? ⟨wr.heap.size, 3, none⟩ = some (.slice A (rd_T97 l3 x).f2.f1.length c) := (blk_cell (heap_alloc_new wr _) 3).trans rfl
                    have HBW := Aside0.mk (below1_alloc HB.out (.cells #[.int .i64 (rd_T97 l3 x).f0, .int .i64 (rd_T97 l3 x).f1, .int .i64 (rd_T97 l3 x).f2.f0, .slice A (rd_T97 l3 x).f2.f1.length c] 97) HS)
                    have HSW : w.heap.size + 2 ≤ (wr.alloc (.cells #[.int .i64 (rd_T97 l3 x).f0, .int .i64 (rd_T97 l3 x).f1, .int .i64 (rd_T97 l3 x).f2.f0, .slice A (rd_T97 l3 x).f2.f1.length c] 97)).heap.size := by simp; omega
                    have HNW := Aside0.mk (Kd.C_below HN.out (below_alloc (Below.refl _ wr) (.cells #[.int .i64 (rd_T97 l3 x).f0, .int .i64 (rd_T97 l3 x).f1, .int .i64 (rd_T97 l3 x).f2.f0, .slice A (rd_T97 l3 x).f2.f1.length c] 97)))
                    have GNW := Aside0.mk (Kd.C_below GN.out (below_alloc (Below.refl _ wr) (.cells #[.int .i64 (rd_T97 l3 x).f0, .int .i64 (rd_T97 l3 x).f1, .int .i64 (rd_T97 l3 x).f2.f0, .slice A (rd_T97 l3 x).f2.f1.length c] 97)))
                    go_wp2_with fail
                    generalize wr.alloc (.cells #[.int .i64 (rd_T97 l3 x).f0, .int .i64 (rd_T97 l3 x).f1, .int .i64 (rd_T97 l3 x).f2.f0, .slice A (rd_T97 l3 x).f2.f1.length c] 97) = W at hg0 hg1 hg2 hg3 hb3 hy0 hy1 hy2 hy3 HBW HSW HNW GNW ⊢
                    go_region_held3 (fun w' => w'.cell? ⟨wr.heap.size, 0, none⟩ = some (.int .i64 (rd_T97 l3 x).f0) ∧ w'.cell? ⟨wr.heap.size, 1, none⟩ = some (.int .i64 (rd_T97 l3 x).f1) ∧ w'.cell? ⟨wr.heap.size, 2, none⟩ = some (.int .i64 (rd_T97 l3 x).f2.f0) ∧ w'.cell? ⟨wr.heap.size, 3, none⟩ = some (.slice A (rd_T97 l3 x).f2.f1.length c) ∧ w'.cell? ⟨w.heap.size + 1, 3, none⟩ = some (.slice (some ad') l3'.length d3) ∧ w'.cell? (ad'.add (x.toNat * 4)) = some (.int .i64 (rd_T97 l3' x).f0) ∧ w'.cell? ⟨(ad'.add (x.toNat * 4)).block, (ad'.add (x.toNat * 4)).off + 1, none⟩ = some (.int .i64 (rd_T97 l3' x).f1) ∧ w'.cell? ⟨(ad'.add (x.toNat * 4)).block, (ad'.add (x.toNat * 4)).off + 2, none⟩ = some (.int .i64 (rd_T97 l3' x).f2.f0) ∧ w'.cell? ⟨(ad'.add (x.toNat * 4)).block, (ad'.add (x.toNat * 4)).off + 3, none⟩ = some (.slice A' (rd_T97 l3' x).f2.f1.length c')) (first | exact ⟨hg0, hg1, hg2, hg3, hb3, hy0, hy1, hy2, hy3⟩ | exact ⟨zhg0, zhg1, zhg2, zhg3, zhb3, zhy0, zhy1, zhy2, zhy3⟩ | go_keep) (first | (go_at_call 44; (with_reducible refine (ref07_SameResult _ _ A A' c c' _ _ _ (Kd.C_below HNW.out ?hX) (Kd.C_below GNW.out ?hX)).mono ?_); (case hX => (with_reducible repeat (first | exact Below.refl _ _ | apply below_drew | apply pw_below_drewN))); rintro e w1 ⟨rfl, hb⟩; replace hb := (show Below W.heap.size W w1 from Below.trans (by (with_reducible repeat (first | exact Below.refl _ _ | apply below_drew | apply pw_below_drewN))) hb); have zhg0 := pw_cell_below hb hg0; have zhg1 := pw_cell_below hb hg1; have zhg2 := pw_cell_below hb hg2; have zhg3 := pw_cell_below hb hg3; have zhb3 := pw_cell_below hb hb3; have zhy0 := pw_cell_below hb hy0; have zhy1 := pw_cell_below hb hy1; have zhy2 := pw_cell_below hb hy2; have zhy3 := pw_cell_below hb hy3; have HB1 := Aside0.mk (HBW.out.trans (hb.mono HSW)); clear hb))
                    go_wp2
                    go_roundw
                    case rel => exact ⟨x + 1, by go_num, by omega, by omega, HB1, ⟨fun j h1 h2 => if e : j = x then by rw [e]; exact ⟨by simpa using hq0, by simpa using hq1, (sameRB_iff.1 hq2).1, (sameRB_iff.1 hq2).2⟩ else HA.out j h1 (by omega)⟩⟩
                    case measure => simp [intOf]; omega
            · go_wp2
              go_ret
              exact ⟨true, rfl, below_of_alloc2 HB.out, iff_of_true rfl ⟨by simpa using hs, HI.out.1 (by simp), HI2.out.1 (by simp), HE.out, fun y h1 h2 => HA.out y h1 (by omega)⟩⟩

end Go.Proofs.Ytophfoenaekfjaa

namespace Go.Proofs.Ytophfoenaekfjaa
open Go.RowKit Go.Proofs.YtophfoenaekfjaaW.PrintWords Go.Proofs.YtophfoenaekfjaaW.PrintLast Go.Proofs.YtophfoenaekfjaaW.PrintMore Go.Proofs.Ytophfoenaekfjaa.PSnapEncodes
set_option linter.unusedVariables false
set_option linter.unusedSimpArgs false

theorem sameB_refl (a : List Int) : sameB a a = true := by unfold sameB; exact beq_self_eq_true _
theorem sameA_refl (a0 : Int) (l1 : List S72) (l2 : List S87) (l3 : List S97) : sameA a0 a0 l1 l1 l2 l2 l3 l3 :=
  ⟨rfl, ⟨rfl, fun _ _ _ => ⟨sameB_refl _, sameB_refl _⟩⟩, ⟨rfl, fun _ _ _ => ⟨sameB_refl _, rfl, rfl⟩⟩, ⟨rfl, fun _ _ _ => ⟨rfl, rfl, rfl, sameB_refl _⟩⟩⟩
/-- Encode's answer, known. -/
def encR (good : Prop) [Decidable good] (l : List Int) : List Int := if good then l else []
def encX (good : Prop) [Decidable good] : Int := if good then 0 else 101
theorem PostEn.get {w w' : World} {good : Prop} {l : List Int} {e : Ending} [Decidable good] (h : PostEn w good l e w') : ∃ A c, e = .returned (.tuple #[.slice A (encR good l).length c, .int .i64 (encX good)]) ∧ CB w' A (encR good l) ∧ Below w.heap.size w w' := by
  obtain ⟨v, b, er, he, ho, hb, hy, hn⟩ := h.out
  have hbe : b = encR good l ∧ er = encX good := by
    unfold encR encX
    by_cases hg : good
    · rw [if_pos hg, if_pos hg]; exact hy hg
    · rw [if_neg hg, if_neg hg]; exact hn hg
  obtain ⟨rfl, rfl⟩ := hbe
  obtain ⟨A, c, rfl, _, hr⟩ := ho.reads
  exact ⟨A, c, he, hr, hb⟩
set_option maxHeartbeats 4000000 in
set_option maxRecDepth 100000 in
open Classical in
theorem law_SnapEncodes (a0 : Int) (A1 A2 A3 : Option Addr) (c1 c2 c3 : Nat) (l1 : List S72) (l2 : List S87) (l3 : List S97) (w : World) (h1 : Kd.C k72 w A1 l1.length l1) (m1 : l1.length ≤ c1) (h2 : Kd.C k87 w A2 l2.length l2) (m2 : l2.length ≤ c2) (h3 : Kd.C k97 w A3 l3.length l3) (m3 : l3.length ≤ c3) (s1 : smallE l1) (s2 : smallL l2) (s3 : smallS l3) :
    Calls Try.prog 3 #[.agg #[.int .i64 a0, .slice A1 l1.length c1, .slice A2 l2.length c2, .slice A3 l3.length c3]] w fun e w' => e = .returned (.bool true) ∧ Below w.heap.size w w' := by
  have H1 := Aside0.mk h1
  have H2 := Aside0.mk h2
  have H3 := Aside0.mk h3
  have S1 := Aside0.mk s1
  have S2 := Aside0.mk s2
  have S3 := Aside0.mk s3
  clear h1 h2 h3 s1 s2 s3
  obtain ⟨W0, hW0⟩ : ∃ W, W = w.alloc (.cells #[.int .i64 a0, .slice A1 l1.length c1, .slice A2 l2.length c2, .slice A3 l3.length c3] 26) := ⟨_, rfl⟩
  obtain ⟨g1, hg1⟩ : ∃ g, g = w.heap.size := ⟨_, rfl⟩
  have HB0 := Aside0.mk (show Below w.heap.size w W0 by rw [hW0]; exact below_alloc (Below.refl _ _) _)
  have HK0 := Aside0.mk (show W0.heap[g1]? = some (.cells #[.int .i64 a0, .slice A1 l1.length c1, .slice A2 l2.length c2, .slice A3 l3.length c3] 26 (0, 0)) by rw [hW0, hg1]; exact blk_new _ _)
  go_enter Try.func3, Try.ntmps3
  go_wp2_with fail
  try rw [← hg1]
  rw [← hW0]
  clear hg1 hW0
  refine (snapAlive W0).mono ?_
  rintro e w1 ⟨rfl, hb⟩
  have HB1 := Aside0.mk (below_step HB0.out hb)
  have HK1 := Aside0.mk (blk_below HK0.out hb)
  clear hb
  have hz0 : w1.cell? ⟨g1, 0, none⟩ = some (.int .i64 a0) := (blk_cell HK1.out 0).trans rfl
  have hz1 : w1.cell? ⟨g1, 1, none⟩ = some (.slice A1 l1.length c1) := (blk_cell HK1.out 1).trans rfl
  have hz2 : w1.cell? ⟨g1, 2, none⟩ = some (.slice A2 l2.length c2) := (blk_cell HK1.out 2).trans rfl
  have hz3 : w1.cell? ⟨g1, 3, none⟩ = some (.slice A3 l3.length c3) := (blk_cell HK1.out 3).trans rfl
  go_wp2_with fail
  refine (ref09_Copy a0 A1 A2 A3 c1 c2 c3 l1 l2 l3 w1 (Kd.C_below H1.out HB1.out) m1 (Kd.C_below H2.out HB1.out) m2 (Kd.C_below H3.out HB1.out) m3 S1.out S2.out S3.out).mono ?_
  rintro e w2 hp
  obtain ⟨v1, v2, v3, rfl, r1, r2, r3, hb⟩ := hp.out
  obtain ⟨B1, d1, rfl, n1, g11⟩ := Kd.S_reads r1
  obtain ⟨B2, d2, rfl, n2, g12⟩ := Kd.S_reads r2
  obtain ⟨B3, d3, rfl, n3, g13⟩ := Kd.S_reads r3
  obtain ⟨g3, hg3⟩ : ∃ g, g = w2.heap.size := ⟨_, rfl⟩
  obtain ⟨W3, hW3⟩ : ∃ W, W = w2.alloc (.cells #[.int .i64 a0, .slice B1 l1.length d1, .slice B2 l2.length d2, .slice B3 l3.length d3] 26) := ⟨_, rfl⟩
  have HX := Aside0.mk (show Below w2.heap.size w2 W3 by rw [hW3]; exact below_alloc (Below.refl _ _) _)
  have HB3 := Aside0.mk (below_step (below_step HB1.out hb) HX.out)
  have HK3 := Aside0.mk (blk_below (blk_below HK1.out hb) HX.out)
  have HL3 := Aside0.mk (show W3.heap[g3]? = some (.cells #[.int .i64 a0, .slice B1 l1.length d1, .slice B2 l2.length d2, .slice B3 l3.length d3] 26 (0, 0)) by rw [hW3, hg3]; exact blk_new _ _)
  have G1 := Aside0.mk (Kd.C_below g11 HX.out)
  have G2 := Aside0.mk (Kd.C_below g12 HX.out)
  have G3 := Aside0.mk (Kd.C_below g13 HX.out)
  clear hb r1 r2 r3 g11 g12 g13
  clear hz0 hz1 hz2 hz3
  have hy0 : (w2.alloc (.cells #[.int .i64 a0, .slice B1 l1.length d1, .slice B2 l2.length d2, .slice B3 l3.length d3] 26)).cell? ⟨w2.heap.size, 0, none⟩ = some (.int .i64 a0) := by rw [← hW3, ← hg3]; exact (blk_cell HL3.out 0).trans rfl
  have hy1 : (w2.alloc (.cells #[.int .i64 a0, .slice B1 l1.length d1, .slice B2 l2.length d2, .slice B3 l3.length d3] 26)).cell? ⟨w2.heap.size, 1, none⟩ = some (.slice B1 l1.length d1) := by rw [← hW3, ← hg3]; exact (blk_cell HL3.out 1).trans rfl
  have hy2 : (w2.alloc (.cells #[.int .i64 a0, .slice B1 l1.length d1, .slice B2 l2.length d2, .slice B3 l3.length d3] 26)).cell? ⟨w2.heap.size, 2, none⟩ = some (.slice B2 l2.length d2) := by rw [← hW3, ← hg3]; exact (blk_cell HL3.out 2).trans rfl
  have hy3 : (w2.alloc (.cells #[.int .i64 a0, .slice B1 l1.length d1, .slice B2 l2.length d2, .slice B3 l3.length d3] 26)).cell? ⟨w2.heap.size, 3, none⟩ = some (.slice B3 l3.length d3) := by rw [← hW3, ← hg3]; exact (blk_cell HL3.out 3).trans rfl
  go_wp2_with fail
  try rw [← hg3]
  rw [← hW3]
  clear hy0 hy1 hy2 hy3
  clear hg3 hW3
  refine (snap_Encode a0 B1 B2 B3 d1 d2 d3 l1 l2 l3 W3 G1.out n1 G2.out n2 G3.out n3).mono ?_
  rintro e w4 hp
  obtain ⟨E1, f1, rfl, hr, hb⟩ := hp.get
  obtain ⟨be, hbe⟩ : ∃ x, encR (goodA a0 l1 l2 l3) (encA a0 l1 l2 l3) = x := ⟨_, rfl⟩
  obtain ⟨ee, hee⟩ : ∃ x, encX (goodA a0 l1 l2 l3) = x := ⟨_, rfl⟩
  rw [hbe] at hr
  rw [hbe, hee]
  have HBE := Aside0.mk hbe
  have HEE := Aside0.mk hee
  have HR := Aside0.mk hr
  have HB4 := Aside0.mk (below_step HB3.out hb)
  have HK4 := Aside0.mk (blk_below HK3.out hb)
  have HL4 := Aside0.mk (blk_below HL3.out hb)
  replace G1 := Aside0.mk (Kd.C_below G1.out hb)
  replace G2 := Aside0.mk (Kd.C_below G2.out hb)
  replace G3 := Aside0.mk (Kd.C_below G3.out hb)
  clear hb hr hbe hee
  have hz0 : w4.cell? ⟨g1, 0, none⟩ = some (.int .i64 a0) := (blk_cell HK4.out 0).trans rfl
  have hz1 : w4.cell? ⟨g1, 1, none⟩ = some (.slice A1 l1.length c1) := (blk_cell HK4.out 1).trans rfl
  have hz2 : w4.cell? ⟨g1, 2, none⟩ = some (.slice A2 l2.length c2) := (blk_cell HK4.out 2).trans rfl
  have hz3 : w4.cell? ⟨g1, 3, none⟩ = some (.slice A3 l3.length c3) := (blk_cell HK4.out 3).trans rfl
  go_wp2_with fail
  refine (ref10_Encode a0 A1 A2 A3 c1 c2 c3 l1 l2 l3 w4 (Kd.C_below H1.out HB4.out) m1 (Kd.C_below H2.out HB4.out) m2 (Kd.C_below H3.out HB4.out) m3).mono ?_
  rintro e w5 hp
  obtain ⟨E2, f2, rfl, hr2, hb⟩ := hp.get
  rw [HBE.out] at hr2
  rw [HBE.out, HEE.out]
  have HR2 := Aside0.mk hr2
  replace HR := Aside0.mk (Kd.C_below HR.out hb)
  have HB5 := Aside0.mk (below_step HB4.out hb)
  have HK5 := Aside0.mk (blk_below HK4.out hb)
  have HL5 := Aside0.mk (blk_below HL4.out hb)
  replace G1 := Aside0.mk (Kd.C_below G1.out hb)
  replace G2 := Aside0.mk (Kd.C_below G2.out hb)
  replace G3 := Aside0.mk (Kd.C_below G3.out hb)
  clear hz0 hz1 hz2 hz3
  clear hb hr2
  go_wp2_with fail
  refine (ref01_Same E1 E2 f1 f2 be be w5 HR.out HR2.out).mono ?_
  rintro e w6 ⟨he, hd⟩
  rw [sameB_refl] at he
  subst he
  have hb := hd.below
  have HB6 := Aside0.mk (below_step HB5.out hb)
  have HK6 := Aside0.mk (blk_below HK5.out hb)
  have HL6 := Aside0.mk (blk_below HL5.out hb)
  replace G1 := Aside0.mk (Kd.C_below G1.out hb)
  replace G2 := Aside0.mk (Kd.C_below G2.out hb)
  replace G3 := Aside0.mk (Kd.C_below G3.out hb)
  clear hb hd
  have hz0 : w6.cell? ⟨g1, 0, none⟩ = some (.int .i64 a0) := (blk_cell HK6.out 0).trans rfl
  have hz1 : w6.cell? ⟨g1, 1, none⟩ = some (.slice A1 l1.length c1) := (blk_cell HK6.out 1).trans rfl
  have hz2 : w6.cell? ⟨g1, 2, none⟩ = some (.slice A2 l2.length c2) := (blk_cell HK6.out 2).trans rfl
  have hz3 : w6.cell? ⟨g1, 3, none⟩ = some (.slice A3 l3.length c3) := (blk_cell HK6.out 3).trans rfl
  have hy0 : w6.cell? ⟨g3, 0, none⟩ = some (.int .i64 a0) := (blk_cell HL6.out 0).trans rfl
  have hy1 : w6.cell? ⟨g3, 1, none⟩ = some (.slice B1 l1.length d1) := (blk_cell HL6.out 1).trans rfl
  have hy2 : w6.cell? ⟨g3, 2, none⟩ = some (.slice B2 l2.length d2) := (blk_cell HL6.out 2).trans rfl
  have hy3 : w6.cell? ⟨g3, 3, none⟩ = some (.slice B3 l3.length d3) := (blk_cell HL6.out 3).trans rfl
  go_wp2_with fail
  refine (ref09_Same a0 a0 B1 B2 B3 A1 A2 A3 d1 d2 d3 c1 c2 c3 l1 l1 l2 l2 l3 l3 w6 G1.out G2.out G3.out (Kd.C_below H1.out HB6.out) (Kd.C_below H2.out HB6.out) (Kd.C_below H3.out HB6.out)).mono ?_
  rintro e w7 hp
  obtain ⟨rb, rfl, hb, hiff⟩ := hp
  have hrb := hiff.2 (sameA_refl _ _ _ _)
  subst hrb
  have HB7 := Aside0.mk (below_step HB6.out hb)
  clear hb hiff
  clear hz0 hz1 hz2 hz3
  clear hy0 hy1 hy2 hy3
  go_wp2_with fail
  go_ret
  exact ⟨rfl, HB7.out⟩

end Go.Proofs.Ytophfoenaekfjaa

namespace Go.Proofs.Ytophfoenaekfjaa
open Go.ChangeShapes Go.WideShapes Go.RowKit Go.Proofs.YtophfoenaekfjaaW.PrintWords Go.Proofs.YtophfoenaekfjaaW.PrintLast Go.Proofs.YtophfoenaekfjaaW.PrintMore Go.Proofs.Ytophfoenaekfjaa.PSnapEncodes
set_option linter.unusedVariables false
set_option linter.unusedSimpArgs false

/-- A value of type t, wherever it reads as data, is one of kind K; Q: what its bulk bounds. -/
def Rdg {α : Type} (K : Kd α) (t : TypeId) (Q : α → Nat → Prop) : Prop :=
  ∀ {H : Type} (enc : TypeId × Value → H) (w : World) (base : Nat) (spare : Nat → Bool) (held : Bool) (fuel : Nat) (cs : List Value) (x : DataW H × List MemPlace),
    DataW.trod enc Try.prog w base spare held fuel t cs = some x → ∃ v, K.K w v cs ∧ Q v (Rows.uptoBulk x.1)
def Mono {α : Type} (Q : α → Nat → Prop) : Prop := ∀ x a b, a ≤ b → Q x a → Q x b
theorem bulk_one {H : Type} (d : DataW H) : 1 ≤ Rows.uptoBulk d := by
  cases d with
  | lit l => cases l <;> simp [Rows.uptoBulk]
  | nil => simp [Rows.uptoBulk]
  | ptr d => simp [Rows.uptoBulk]
  | slice elems spare => simp [Rows.uptoBulk]
  | agg parts => simp [Rows.uptoBulk]
  | iface t d => simp [Rows.uptoBulk]
  | map entries => simp [Rows.uptoBulk]
  | held h => simp [Rows.uptoBulk]
theorem bulk_part {H : Type} {d : DataW H} {l : List (DataW H)} (h : d ∈ l) : Rows.uptoBulk d ≤ Rows.uptoBulkAll l := by
  induction l with
  | nil => cases h
  | cons x r ih =>
    simp only [Rows.uptoBulkAll]
    cases List.mem_cons.1 h with
    | inl e => subst e; omega
    | inr e => have := ih e; omega
theorem bulk_len {H : Type} (l : List (DataW H)) : l.length ≤ Rows.uptoBulkAll l := by
  induction l with
  | nil => simp [Rows.uptoBulkAll]
  | cons x r ih => have := bulk_one x; simp only [Rows.uptoBulkAll, List.length_cons]; omega
theorem bulk_agg {H : Type} {parts : List (DataW H)} {d : DataW H} (h : d ∈ parts) : Rows.uptoBulk d ≤ Rows.uptoBulk (.agg parts) := by
  have := bulk_part h
  simp only [Rows.uptoBulk]
  omega
theorem bulk_elem {H : Type} {elems spare : List (DataW H)} {d : DataW H} (h : d ∈ elems) : Rows.uptoBulk d ≤ Rows.uptoBulk (.slice elems spare) := by
  have := bulk_part h
  simp only [Rows.uptoBulk]
  omega
theorem list_2 {α : Type} : ∀ {l : List α}, l.length = 2 → ∃ a b, l = [a, b]
  | [a, b], _ => ⟨a, b, rfl⟩
theorem list_3 {α : Type} : ∀ {l : List α}, l.length = 3 → ∃ a b c, l = [a, b, c]
  | [a, b, c], _ => ⟨a, b, c, rfl⟩
theorem list_4 {α : Type} : ∀ {l : List α}, l.length = 4 → ∃ a b c d, l = [a, b, c, d]
  | [a, b, c, d], _ => ⟨a, b, c, d, rfl⟩
theorem addr_add (a : Addr) (x y : Nat) : (a.add x).add y = a.add (x + y) := by
  unfold Addr.add
  by_cases h1 : x = 0 <;> by_cases h2 : y = 0 <;> simp [h1, h2, Nat.add_assoc]
theorem rdg_int : Rdg (Kd.int .i64) 3 (fun n _ => -9223372036854775808 ≤ n ∧ n ≤ 9223372036854775807) := by
  intro H enc w base spare held fuel cs x h
  obtain ⟨n, rfl, rfl, hw⟩ := DataW.trod_int Try.underlying3 h
  refine ⟨n, rfl, ?_⟩
  simp only [Lit.wf, Bool.and_eq_true, decide_eq_true_eq] at hw
  exact hw
theorem rdg_byte : Rdg (Kd.int .u8) 5 (fun n _ => 0 ≤ n ∧ n ≤ 255) := by
  intro H enc w base spare held fuel cs x h
  obtain ⟨n, rfl, rfl, hw⟩ := DataW.trod_int Try.underlying5 h
  refine ⟨n, rfl, ?_⟩
  simp only [Lit.wf, Bool.and_eq_true, decide_eq_true_eq] at hw
  exact hw
theorem rdg_slice {α : Type} {d : Kd α} {t e : TypeId} {Q : α → Nat → Prop} (ht : Try.prog.underlying t = some (.slice e)) (hsz : Try.prog.cellsOf e = d.sz) (h : Rdg d e Q) (hQ : Mono Q) :
    Rdg (Kd.slice e d) t (fun xs b => xs.length ≤ b ∧ ∀ x ∈ xs, Q x b) := by
  intro H enc w base spare held fuel cs x hx
  rcases DataW.trod_slice ht hx with ⟨rfl, rfl⟩ | ⟨a, len, cap, elems, rest, n, _, rfl, rfl, hb, hl, hm, hlen, hel, _, _⟩
  · exact ⟨[], ⟨none, 0, rfl, Nat.le_refl _, Kd.C_nil _ _⟩, by simp, by simp⟩
  · have each : ∀ i, i < len → ∃ v, ∃ c, c.length = d.sz ∧ d.K w v c ∧ (∀ j u, c[j]? = some u → w.cell? (a.add (i * d.sz + j)) = some u) ∧ Q v (Rows.uptoBulk (DataW.slice (elems.map (·.1)) (rest.map (·.1)))) := by
      intro i hi
      have hi' : i < elems.length := by omega
      have h1 := hel i hi
      rw [List.getElem?_eq_getElem hi', Option.bind_eq_some_iff] at h1
      obtain ⟨c, hc, hd⟩ := h1
      obtain ⟨_, hcl, hcell⟩ := World.cells?_some hc
      obtain ⟨v, hk, hq⟩ := h enc w base spare held n c _ hd
      refine ⟨v, c, by rw [hcl, hsz], hk, fun j u hj => ?_, hQ _ _ _ (bulk_elem (List.mem_map.2 ⟨_, List.getElem_mem hi', rfl⟩)) hq⟩
      have hjl : j < c.length := (List.getElem?_eq_some_iff.1 hj).1
      have := hcell j (by omega)
      rw [hsz] at this
      rw [addr_add] at this
      rw [← hj, ← this]
    have ex : ∃ xs : List α, xs.length = len ∧ ∀ (i : Nat) (p : α), xs[i]? = some p → ∃ c, c.length = d.sz ∧ d.K w p c ∧ (∀ j u, c[j]? = some u → w.cell? (a.add (i * d.sz + j)) = some u) ∧ Q p (Rows.uptoBulk (DataW.slice (elems.map (·.1)) (rest.map (·.1)))) := by
      classical
      refine ⟨(List.range len).pmap (fun i hi => (each i hi).choose) (fun i hi => List.mem_range.1 hi), by simp, fun i p hp => ?_⟩
      obtain ⟨hil, hpe⟩ := List.getElem?_eq_some_iff.1 hp
      have hil2 : i < len := by simpa using hil
      have : p = (each i hil2).choose := by rw [← hpe]; simp
      rw [this]
      exact (each i hil2).choose_spec
    obtain ⟨xs, hxl, hxs⟩ := ex
    have hmax : len ≤ 9223372036854775807 := by simp [maxLen] at hm; omega
    refine ⟨xs, ⟨some a, cap, by rw [hxl], by omega, rfl, by omega, fun _ => ⟨a, rfl, fun j p hj => ?_⟩⟩, ?_, fun y hy => ?_⟩
    · obtain ⟨c, h1, h2, h3, _⟩ := hxs j p hj
      exact ⟨c, h1, h2, h3⟩
    · have := bulk_len (elems.map (·.1))
      rw [List.length_map] at this
      simp only [Rows.uptoBulk]
      omega
    · obtain ⟨i, hi⟩ := List.getElem?_of_mem hy
      obtain ⟨_, _, _, _, hq⟩ := hxs i y hi
      exact hq
def QB (l : List Int) (b : Nat) : Prop := l.length ≤ b ∧ ∀ x ∈ l, 0 ≤ x ∧ x ≤ 255
theorem mono_byte : Mono (fun (n : Int) (_ : Nat) => 0 ≤ n ∧ n ≤ 255) := fun _ _ _ _ h => h
theorem mono_B : Mono QB := fun _ _ _ h k => ⟨Nat.le_trans k.1 h, k.2⟩
theorem c5 : Try.prog.cellsOf 5 = 1 := by kernel_rfl
theorem c3 : Try.prog.cellsOf 3 = 1 := by kernel_rfl
theorem c29 : Try.prog.cellsOf 29 = 1 := by kernel_rfl
theorem c72 : Try.prog.cellsOf 72 = 2 := by kernel_rfl
theorem c87 : Try.prog.cellsOf 87 = 3 := by kernel_rfl
theorem c97 : Try.prog.cellsOf 97 = 4 := by kernel_rfl
theorem c45 : Try.prog.cellsOf 45 = 2 := by kernel_rfl
theorem c26 : Try.prog.cellsOf 26 = 4 := by kernel_rfl
theorem c22 : Try.prog.cellsOf 22 = 1 := by kernel_rfl
theorem c23 : Try.prog.cellsOf 23 = 1 := by kernel_rfl
theorem c24 : Try.prog.cellsOf 24 = 1 := by kernel_rfl
theorem rdg_bytes : Rdg (Kd.slice 5 (Kd.int .u8)) 29 QB := rdg_slice Try.underlying29 c5 rdg_byte mono_byte
def QE (x : S72) (b : Nat) : Prop := QB x.f0 b ∧ QB x.f1 b
def QL (x : S87) (b : Nat) : Prop := QB x.f0 b ∧ (-9223372036854775808 ≤ x.f1 ∧ x.f1 ≤ 9223372036854775807) ∧ (-9223372036854775808 ≤ x.f2 ∧ x.f2 ≤ 9223372036854775807)
def QR (x : S45) (b : Nat) : Prop := (-9223372036854775808 ≤ x.f0 ∧ x.f0 ≤ 9223372036854775807) ∧ QB x.f1 b
def QS (x : S97) (b : Nat) : Prop := (-9223372036854775808 ≤ x.f0 ∧ x.f0 ≤ 9223372036854775807) ∧ (-9223372036854775808 ≤ x.f1 ∧ x.f1 ≤ 9223372036854775807) ∧ QR x.f2 b
theorem mono_E : Mono QE := fun _ _ _ h k => ⟨mono_B _ _ _ h k.1, mono_B _ _ _ h k.2⟩
theorem mono_L : Mono QL := fun _ _ _ h k => ⟨mono_B _ _ _ h k.1, k.2⟩
theorem mono_R : Mono QR := fun _ _ _ h k => ⟨k.1, mono_B _ _ _ h k.2⟩
theorem mono_S : Mono QS := fun _ _ _ h k => ⟨k.1, k.2.1, mono_R _ _ _ h k.2.2⟩
theorem rdg_E : Rdg k72 72 QE := by
  intro H enc w base spare held fuel cs x h
  obtain ⟨xs, n, _, rfl, hl, hx, hf⟩ := DataW.trod_struct Try.underlying72 h
  rw [c72] at hl
  replace hx : xs.length = 2 := hx
  obtain ⟨x0, x1, rfl⟩ := list_2 hx
  obtain ⟨u0, u1, rfl⟩ := list_2 hl
  have h0 : DataW.trod enc Try.prog w base spare held n 29 (([u0, u1].drop 0).take (Try.prog.cellsOf 29)) = some x0 := hf 0 _ rfl
  rw [show (([u0, u1] : List Value).drop 0).take (Try.prog.cellsOf 29) = [u0] by rw [c29]; rfl] at h0
  obtain ⟨y0, k0, q0⟩ := rdg_bytes enc w base spare held n _ x0 h0
  have b0 : Rows.uptoBulk x0.1 ≤ Rows.uptoBulk (DataW.agg ([x0, x1].map (·.1))) := bulk_agg (by simp)
  have h1 : DataW.trod enc Try.prog w base spare held n 29 (([u0, u1].drop 1).take (Try.prog.cellsOf 29)) = some x1 := hf 1 _ rfl
  rw [show (([u0, u1] : List Value).drop 1).take (Try.prog.cellsOf 29) = [u1] by rw [c29]; rfl] at h1
  obtain ⟨y1, k1, q1⟩ := rdg_bytes enc w base spare held n _ x1 h1
  have b1 : Rows.uptoBulk x1.1 ≤ Rows.uptoBulk (DataW.agg ([x0, x1].map (·.1))) := bulk_agg (by simp)
  exact ⟨⟨y0, y1⟩, ⟨_, _, rfl, k0, k1⟩, ⟨mono_B _ _ _ b0 q0, mono_B _ _ _ b1 q1⟩⟩
theorem rdg_L : Rdg k87 87 QL := by
  intro H enc w base spare held fuel cs x h
  obtain ⟨xs, n, _, rfl, hl, hx, hf⟩ := DataW.trod_struct Try.underlying87 h
  rw [c87] at hl
  replace hx : xs.length = 3 := hx
  obtain ⟨x0, x1, x2, rfl⟩ := list_3 hx
  obtain ⟨u0, u1, u2, rfl⟩ := list_3 hl
  have h0 : DataW.trod enc Try.prog w base spare held n 29 (([u0, u1, u2].drop 0).take (Try.prog.cellsOf 29)) = some x0 := hf 0 _ rfl
  rw [show (([u0, u1, u2] : List Value).drop 0).take (Try.prog.cellsOf 29) = [u0] by rw [c29]; rfl] at h0
  obtain ⟨y0, k0, q0⟩ := rdg_bytes enc w base spare held n _ x0 h0
  have b0 : Rows.uptoBulk x0.1 ≤ Rows.uptoBulk (DataW.agg ([x0, x1, x2].map (·.1))) := bulk_agg (by simp)
  have h1 : DataW.trod enc Try.prog w base spare held n 3 (([u0, u1, u2].drop 1).take (Try.prog.cellsOf 3)) = some x1 := hf 1 _ rfl
  rw [show (([u0, u1, u2] : List Value).drop 1).take (Try.prog.cellsOf 3) = [u1] by rw [c3]; rfl] at h1
  obtain ⟨y1, k1, q1⟩ := rdg_int enc w base spare held n _ x1 h1
  have b1 : Rows.uptoBulk x1.1 ≤ Rows.uptoBulk (DataW.agg ([x0, x1, x2].map (·.1))) := bulk_agg (by simp)
  have h2 : DataW.trod enc Try.prog w base spare held n 3 (([u0, u1, u2].drop 2).take (Try.prog.cellsOf 3)) = some x2 := hf 2 _ rfl
  rw [show (([u0, u1, u2] : List Value).drop 2).take (Try.prog.cellsOf 3) = [u2] by rw [c3]; rfl] at h2
  obtain ⟨y2, k2, q2⟩ := rdg_int enc w base spare held n _ x2 h2
  have b2 : Rows.uptoBulk x2.1 ≤ Rows.uptoBulk (DataW.agg ([x0, x1, x2].map (·.1))) := bulk_agg (by simp)
  exact ⟨⟨y0, y1, y2⟩, ⟨_, _, rfl, k0, ⟨_, _, rfl, k1, k2⟩⟩, ⟨mono_B _ _ _ b0 q0, q1, q2⟩⟩
theorem rdg_R : Rdg k45 45 QR := by
  intro H enc w base spare held fuel cs x h
  obtain ⟨xs, n, _, rfl, hl, hx, hf⟩ := DataW.trod_struct Try.underlying45 h
  rw [c45] at hl
  replace hx : xs.length = 2 := hx
  obtain ⟨x0, x1, rfl⟩ := list_2 hx
  obtain ⟨u0, u1, rfl⟩ := list_2 hl
  have h0 : DataW.trod enc Try.prog w base spare held n 3 (([u0, u1].drop 0).take (Try.prog.cellsOf 3)) = some x0 := hf 0 _ rfl
  rw [show (([u0, u1] : List Value).drop 0).take (Try.prog.cellsOf 3) = [u0] by rw [c3]; rfl] at h0
  obtain ⟨y0, k0, q0⟩ := rdg_int enc w base spare held n _ x0 h0
  have b0 : Rows.uptoBulk x0.1 ≤ Rows.uptoBulk (DataW.agg ([x0, x1].map (·.1))) := bulk_agg (by simp)
  have h1 : DataW.trod enc Try.prog w base spare held n 29 (([u0, u1].drop 1).take (Try.prog.cellsOf 29)) = some x1 := hf 1 _ rfl
  rw [show (([u0, u1] : List Value).drop 1).take (Try.prog.cellsOf 29) = [u1] by rw [c29]; rfl] at h1
  obtain ⟨y1, k1, q1⟩ := rdg_bytes enc w base spare held n _ x1 h1
  have b1 : Rows.uptoBulk x1.1 ≤ Rows.uptoBulk (DataW.agg ([x0, x1].map (·.1))) := bulk_agg (by simp)
  exact ⟨⟨y0, y1⟩, ⟨_, _, rfl, k0, k1⟩, ⟨q0, mono_B _ _ _ b1 q1⟩⟩
theorem rdg_S : Rdg k97 97 QS := by
  intro H enc w base spare held fuel cs x h
  obtain ⟨xs, n, _, rfl, hl, hx, hf⟩ := DataW.trod_struct Try.underlying97 h
  rw [c97] at hl
  replace hx : xs.length = 3 := hx
  obtain ⟨x0, x1, x2, rfl⟩ := list_3 hx
  obtain ⟨u0, u1, u2, u3, rfl⟩ := list_4 hl
  have h0 : DataW.trod enc Try.prog w base spare held n 3 (([u0, u1, u2, u3].drop 0).take (Try.prog.cellsOf 3)) = some x0 := hf 0 _ rfl
  rw [show (([u0, u1, u2, u3] : List Value).drop 0).take (Try.prog.cellsOf 3) = [u0] by rw [c3]; rfl] at h0
  obtain ⟨y0, k0, q0⟩ := rdg_int enc w base spare held n _ x0 h0
  have b0 : Rows.uptoBulk x0.1 ≤ Rows.uptoBulk (DataW.agg ([x0, x1, x2].map (·.1))) := bulk_agg (by simp)
  have h1 : DataW.trod enc Try.prog w base spare held n 3 (([u0, u1, u2, u3].drop 1).take (Try.prog.cellsOf 3)) = some x1 := hf 1 _ rfl
  rw [show (([u0, u1, u2, u3] : List Value).drop 1).take (Try.prog.cellsOf 3) = [u1] by rw [c3]; rfl] at h1
  obtain ⟨y1, k1, q1⟩ := rdg_int enc w base spare held n _ x1 h1
  have b1 : Rows.uptoBulk x1.1 ≤ Rows.uptoBulk (DataW.agg ([x0, x1, x2].map (·.1))) := bulk_agg (by simp)
  have h2 : DataW.trod enc Try.prog w base spare held n 45 (([u0, u1, u2, u3].drop 2).take (Try.prog.cellsOf 45)) = some x2 := hf 2 _ rfl
  rw [show (([u0, u1, u2, u3] : List Value).drop 2).take (Try.prog.cellsOf 45) = [u2, u3] by rw [c45]; rfl] at h2
  obtain ⟨y2, k2, q2⟩ := rdg_R enc w base spare held n _ x2 h2
  have b2 : Rows.uptoBulk x2.1 ≤ Rows.uptoBulk (DataW.agg ([x0, x1, x2].map (·.1))) := bulk_agg (by simp)
  exact ⟨⟨y0, y1, y2⟩, ⟨_, _, rfl, k0, ⟨_, _, rfl, k1, k2⟩⟩, ⟨q0, q1, mono_R _ _ _ b2 q2⟩⟩

end Go.Proofs.Ytophfoenaekfjaa

namespace Go.Proofs.Ytophfoenaekfjaa
open Go.Joins Go.ChangeShapes Go.WideShapes Go.RowKit Go.Proofs.YtophfoenaekfjaaW.PrintWords Go.Proofs.YtophfoenaekfjaaW.PrintLast Go.Proofs.YtophfoenaekfjaaW.PrintMore Go.Proofs.Ytophfoenaekfjaa.PSnapEncodes
set_option linter.unusedVariables false
set_option linter.unusedSimpArgs false

theorem oneC {a b : Value} (h : [a] = [b]) : a = b := by injection h
theorem smallE_of {l : List S72} {b : Nat} (h : l.length ≤ b ∧ ∀ x ∈ l, QE x b) (hb : b ≤ 1048576) : smallE l := ⟨by omega, fun x hx => by have := (h.2 x hx).1.1; have := (h.2 x hx).2.1; omega⟩
theorem smallL_of {l : List S87} {b : Nat} (h : l.length ≤ b ∧ ∀ x ∈ l, QL x b) (hb : b ≤ 1048576) : smallL l := ⟨by omega, fun x hx => by have := (h.2 x hx).1.1; omega⟩
theorem smallS_of {l : List S97} {b : Nat} (h : l.length ≤ b ∧ ∀ x ∈ l, QS x b) (hb : b ≤ 1048576) : smallS l := ⟨by omega, fun x hx => by have := (h.2 x hx).2.2.2.1; omega⟩
/-- The bytes of a text are bytes. -/
def wfE (l : List S72) : Prop := ∀ x ∈ l, wfB x.f0 ∧ wfB x.f1
def wfL (l : List S87) : Prop := ∀ x ∈ l, wfB x.f0
def wfS (l : List S97) : Prop := ∀ x ∈ l, wfB x.f2.f1
theorem wfE_of {l : List S72} {b : Nat} (h : l.length ≤ b ∧ ∀ x ∈ l, QE x b) : wfE l := fun x hx => ⟨(h.2 x hx).1.2, (h.2 x hx).2.2⟩
theorem wfL_of {l : List S87} {b : Nat} (h : l.length ≤ b ∧ ∀ x ∈ l, QL x b) : wfL l := fun x hx => (h.2 x hx).1.2
theorem wfS_of {l : List S97} {b : Nat} (h : l.length ≤ b ∧ ∀ x ∈ l, QS x b) : wfS l := fun x hx => (h.2 x hx).2.2.2.2
theorem bulkAll_mem {H : Type} {d : DataW H} {ds : List (DataW H)} {N : Nat} (h : Rows.uptoBulkAll ds ≤ N) (hd : d ∈ ds) : Rows.uptoBulk d ≤ N := Nat.le_trans (bulk_part hd) h
structure AppIn (W : World) (v : Value) (a0 : Int) (A1 A2 A3 : Option Addr) (c1 c2 c3 : Nat) (l1 : List S72) (l2 : List S87) (l3 : List S97) : Prop where
  val : v = .agg #[.int .i64 a0, .slice A1 l1.length c1, .slice A2 l2.length c2, .slice A3 l3.length c3]
  num : -9223372036854775808 ≤ a0 ∧ a0 ≤ 9223372036854775807
  h1 : Kd.C k72 W A1 l1.length l1
  m1 : l1.length ≤ c1
  h2 : Kd.C k87 W A2 l2.length l2
  m2 : l2.length ≤ c2
  h3 : Kd.C k97 W A3 l3.length l3
  m3 : l3.length ≤ c3
  s1 : smallE l1
  s2 : smallL l2
  s3 : smallS l3
  w1 : wfE l1
  w2 : wfL l2
  w3 : wfS l3
set_option maxRecDepth 100000 in
theorem open_app {H : Type} {enc : TypeId × Value → H} {W : World} {base : Nat} {v : Value} {d : DataW H} {p : List MemPlace} (hv : Value.okWide Try.prog W .any base 26 v) (h : DataW.Trod enc Try.prog W 0 (fun _ => true) true 26 v d p) (hd : Rows.uptoBulk d ≤ 1048576) :
    ∃ a0 A1 A2 A3 c1 c2 c3 l1 l2 l3, AppIn W v a0 A1 A2 A3 c1 c2 c3 l1 l2 l3 := by
  obtain ⟨v0, v1, v2, v3, y0, y1, y2, y3, n, rfl, rfl, rfl, t0, t1, t2, t3⟩ := open_agg4 Try.underlying26 (by kernel_rfl) c26 hv h
  have b1 : Rows.uptoBulk y1.1 ≤ 1048576 := Nat.le_trans (bulk_agg (by simp)) hd
  have b2 : Rows.uptoBulk y2.1 ≤ 1048576 := Nat.le_trans (bulk_agg (by simp)) hd
  have b3 : Rows.uptoBulk y3.1 ≤ 1048576 := Nat.le_trans (bulk_agg (by simp)) hd
  obtain ⟨a0, k0, q0⟩ := rdg_int enc W 0 _ _ n _ _ t0
  obtain ⟨l1, ⟨A1, c1, e1, m1, g1⟩, q1⟩ := rdg_slice Try.underlying22 c72 rdg_E mono_E enc W 0 _ _ n _ _ t1
  obtain ⟨l2, ⟨A2, c2, e2, m2, g2⟩, q2⟩ := rdg_slice Try.underlying23 c87 rdg_L mono_L enc W 0 _ _ n _ _ t2
  obtain ⟨l3, ⟨A3, c3, e3, m3, g3⟩, q3⟩ := rdg_slice Try.underlying24 c97 rdg_S mono_S enc W 0 _ _ n _ _ t3
  obtain rfl := oneC k0
  obtain rfl := oneC e1
  obtain rfl := oneC e2
  obtain rfl := oneC e3
  exact ⟨a0, A1, A2, A3, c1, c2, c3, l1, l2, l3, rfl, q0, g1, m1, g2, m2, g3, m3, smallE_of q1 b1, smallL_of q2 b2, smallS_of q3 b3, wfE_of q1, wfL_of q2, wfS_of q3⟩
structure ByIn (W : World) (v : Value) (A : Option Addr) (c : Nat) (l : List Int) : Prop where
  val : v = .slice A l.length c
  rd : CB W A l
  le : l.length ≤ c
  wf : wfB l
  sm : l.length ≤ 1048576
set_option maxRecDepth 100000 in
theorem open_by {H : Type} {enc : TypeId × Value → H} {W : World} {base : Nat} {v : Value} {d : DataW H} {p : List MemPlace} (hv : Value.okWide Try.prog W .any base 29 v) (h : DataW.Trod enc Try.prog W 0 (fun _ => true) true 29 v d p) (hd : Rows.uptoBulk d ≤ 1048576) : ∃ A c l, ByIn W v A c l := by
  obtain ⟨a, len, cap, rfl⟩ := okWide_slice Try.underlying29 hv
  obtain ⟨n, hn⟩ := h
  obtain ⟨l, ⟨A, c, e, m, g⟩, q⟩ := rdg_bytes enc W 0 _ _ n _ _ hn
  exact ⟨A, c, l, oneC (show [Value.slice a len cap] = _ from e), g, m, q.2, Nat.le_trans q.1 hd⟩

end Go.Proofs.Ytophfoenaekfjaa

