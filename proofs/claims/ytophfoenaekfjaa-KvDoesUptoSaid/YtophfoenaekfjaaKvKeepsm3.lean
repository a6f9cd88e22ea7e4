/- Parts of the proof of KvKeeps: Which operations can be written: the reference. Entries in memory of their own. Names in order: where a name lies among names that go up. Where a name lies among entries: slices.BinarySearchFunc. -/
import Derived.Test.YtophfoenaekfjaaKvKeepsm2
import Derived.Test.YtophfoenaekfjaaKvKeepsm1
import Derived.Outline
import Derived.Deep.RegionLaw
import Derived.IntWalk
namespace Go.Proofs.Ytophfoenaekfjaa
open Go.RowKit Go.Proofs.YtophfoenaekfjaaW.PrintWords Go.Proofs.YtophfoenaekfjaaW.PrintLast Go.Proofs.YtophfoenaekfjaaW.PrintMore Go.Proofs.Ytophfoenaekfjaa.PSnapEncodes
set_option linter.unusedVariables false
set_option linter.unusedSimpArgs false
set_option maxHeartbeats 4000000 in
set_option maxRecDepth 100000 in
theorem ref07_RightOp (k : Int) (A1 A2 A3 : Option Addr) (c1 c2 c3 : Nat) (n a b : List Int) (num : Int) (w : World) :
    Calls Try.prog 100 #[.agg #[.int .i64 k, .slice A1 n.length c1, .slice A2 a.length c2, .slice A3 b.length c3, .int .i64 num]] w (PostB w fun r => (r = true ↔ goodO k n a b num)) := by
  cases hq1 : decide (k < 1) with
  | true =>
    go_enter Try.func100, Try.ntmps100
    go_wp2
    go_ret
    exact ⟨false, rfl, below_alloc (Below.refl _ _) _, iff_of_false (by simp) (fun h => by have z_hq1 := of_decide_eq_true hq1; have := h.kind; have := h.name; have := h.first; have := h.second; have := h.term; omega)⟩
  | false =>
    cases hq2 : decide (8 < k) with
    | true =>
      go_enter Try.func100, Try.ntmps100
      go_wp2
      go_ret
      exact ⟨false, rfl, below_alloc (Below.refl _ _) _, iff_of_false (by simp) (fun h => by have z_hq1 := of_decide_eq_false hq1; have z_hq2 := of_decide_eq_true hq2; have := h.kind; have := h.name; have := h.first; have := h.second; have := h.term; omega)⟩
    | false =>
      cases hq3 : ((n.length : Int) == 0) with
      | true =>
        go_enter Try.func100, Try.ntmps100
        go_wp2
        go_ret
        exact ⟨false, rfl, below_alloc (Below.refl _ _) _, iff_of_false (by simp) (fun h => by have z_hq1 := of_decide_eq_false hq1; have z_hq2 := of_decide_eq_false hq2; have z_hq3 := eq_of_beq hq3; have := h.kind; have := h.name; have := h.first; have := h.second; have := h.term; omega)⟩
      | false =>
        cases hq4 : decide (16 < (n.length : Int)) with
        | true =>
          go_enter Try.func100, Try.ntmps100
          go_wp2
          go_ret
          exact ⟨false, rfl, below_alloc (Below.refl _ _) _, iff_of_false (by simp) (fun h => by have z_hq1 := of_decide_eq_false hq1; have z_hq2 := of_decide_eq_false hq2; have z_hq3 := ne_of_beq_false hq3; have z_hq4 := of_decide_eq_true hq4; have := h.kind; have := h.name; have := h.first; have := h.second; have := h.term; omega)⟩
        | false =>
          cases hq5 : decide (64 < (a.length : Int)) with
          | true =>
            go_enter Try.func100, Try.ntmps100
            go_wp2
            go_ret
            exact ⟨false, rfl, below_alloc (Below.refl _ _) _, iff_of_false (by simp) (fun h => by have z_hq1 := of_decide_eq_false hq1; have z_hq2 := of_decide_eq_false hq2; have z_hq3 := ne_of_beq_false hq3; have z_hq4 := of_decide_eq_false hq4; have z_hq5 := of_decide_eq_true hq5; have := h.kind; have := h.name; have := h.first; have := h.second; have := h.term; omega)⟩
          | false =>
            cases hq6 : decide (64 < (b.length : Int)) with
            | true =>
              go_enter Try.func100, Try.ntmps100
              go_wp2
              go_ret
              exact ⟨false, rfl, below_alloc (Below.refl _ _) _, iff_of_false (by simp) (fun h => by have z_hq1 := of_decide_eq_false hq1; have z_hq2 := of_decide_eq_false hq2; have z_hq3 := ne_of_beq_false hq3; have z_hq4 := of_decide_eq_false hq4; have z_hq5 := of_decide_eq_false hq5; have z_hq6 := of_decide_eq_true hq6; have := h.kind; have := h.name; have := h.first; have := h.second; have := h.term; omega)⟩
            | false =>
              cases hk7 : (k == 2) with
              | true =>
                cases hq8 : ((b.length : Int) == 0) with
                | false =>
                  go_enter Try.func100, Try.ntmps100
                  go_wp2
                  go_ret
                  exact ⟨false, rfl, below_alloc (Below.refl _ _) _, iff_of_false (by simp) (fun h => by have z_hq1 := of_decide_eq_false hq1; have z_hq2 := of_decide_eq_false hq2; have z_hq3 := ne_of_beq_false hq3; have z_hq4 := of_decide_eq_false hq4; have z_hq5 := of_decide_eq_false hq5; have z_hq6 := of_decide_eq_false hq6; have z_hk7 := eq_of_beq hk7; have z_hq8 := ne_of_beq_false hq8; have := h.kind; have := h.name; have := h.first; have := h.second; have := h.term; omega)⟩
                | true =>
                  cases hq9 : (num == 0) with
                  | false =>
                    go_enter Try.func100, Try.ntmps100
                    go_wp2
                    go_ret
                    exact ⟨false, rfl, below_alloc (Below.refl _ _) _, iff_of_false (by simp) (fun h => by have z_hq1 := of_decide_eq_false hq1; have z_hq2 := of_decide_eq_false hq2; have z_hq3 := ne_of_beq_false hq3; have z_hq4 := of_decide_eq_false hq4; have z_hq5 := of_decide_eq_false hq5; have z_hq6 := of_decide_eq_false hq6; have z_hk7 := eq_of_beq hk7; have z_hq8 := eq_of_beq hq8; have z_hq9 := ne_of_beq_false hq9; have := h.kind; have := h.name; have := h.first; have := h.second; have := h.term; omega)⟩
                  | true =>
                    go_enter Try.func100, Try.ntmps100
                    go_wp2
                    go_ret
                    exact ⟨true, rfl, below_alloc (Below.refl _ _) _, iff_of_true rfl (by have z_hq1 := of_decide_eq_false hq1; have z_hq2 := of_decide_eq_false hq2; have z_hq3 := ne_of_beq_false hq3; have z_hq4 := of_decide_eq_false hq4; have z_hq5 := of_decide_eq_false hq5; have z_hq6 := of_decide_eq_false hq6; have z_hk7 := eq_of_beq hk7; have z_hq8 := eq_of_beq hq8; have z_hq9 := eq_of_beq hq9; exact ⟨by omega, by omega, by omega, by omega, by omega⟩)⟩
              | false =>
                cases hk10 : (k == 3) with
                | true =>
                  cases hq11 : (num == 0) with
                  | false =>
                    go_enter Try.func100, Try.ntmps100
                    go_wp2
                    go_ret
                    exact ⟨false, rfl, below_alloc (Below.refl _ _) _, iff_of_false (by simp) (fun h => by have z_hq1 := of_decide_eq_false hq1; have z_hq2 := of_decide_eq_false hq2; have z_hq3 := ne_of_beq_false hq3; have z_hq4 := of_decide_eq_false hq4; have z_hq5 := of_decide_eq_false hq5; have z_hq6 := of_decide_eq_false hq6; have z_hk7 := ne_of_beq_false hk7; have z_hk10 := eq_of_beq hk10; have z_hq11 := ne_of_beq_false hq11; have := h.kind; have := h.name; have := h.first; have := h.second; have := h.term; omega)⟩
                  | true =>
                    go_enter Try.func100, Try.ntmps100
                    go_wp2
                    go_ret
                    exact ⟨true, rfl, below_alloc (Below.refl _ _) _, iff_of_true rfl (by have z_hq1 := of_decide_eq_false hq1; have z_hq2 := of_decide_eq_false hq2; have z_hq3 := ne_of_beq_false hq3; have z_hq4 := of_decide_eq_false hq4; have z_hq5 := of_decide_eq_false hq5; have z_hq6 := of_decide_eq_false hq6; have z_hk7 := ne_of_beq_false hk7; have z_hk10 := eq_of_beq hk10; have z_hq11 := eq_of_beq hq11; exact ⟨by omega, by omega, by omega, by omega, by omega⟩)⟩
                | false =>
                  cases hk12 : (k == 5) with
                  | true =>
                    cases hq13 : ((a.length : Int) == 0) with
                    | false =>
                      go_enter Try.func100, Try.ntmps100
                      go_wp2
                      go_ret
                      exact ⟨false, rfl, below_alloc (Below.refl _ _) _, iff_of_false (by simp) (fun h => by have z_hq1 := of_decide_eq_false hq1; have z_hq2 := of_decide_eq_false hq2; have z_hq3 := ne_of_beq_false hq3; have z_hq4 := of_decide_eq_false hq4; have z_hq5 := of_decide_eq_false hq5; have z_hq6 := of_decide_eq_false hq6; have z_hk7 := ne_of_beq_false hk7; have z_hk10 := ne_of_beq_false hk10; have z_hk12 := eq_of_beq hk12; have z_hq13 := ne_of_beq_false hq13; have := h.kind; have := h.name; have := h.first; have := h.second; have := h.term; omega)⟩
                    | true =>
                      cases hq14 : ((b.length : Int) == 0) with
                      | false =>
                        go_enter Try.func100, Try.ntmps100
                        go_wp2
                        go_ret
                        exact ⟨false, rfl, below_alloc (Below.refl _ _) _, iff_of_false (by simp) (fun h => by have z_hq1 := of_decide_eq_false hq1; have z_hq2 := of_decide_eq_false hq2; have z_hq3 := ne_of_beq_false hq3; have z_hq4 := of_decide_eq_false hq4; have z_hq5 := of_decide_eq_false hq5; have z_hq6 := of_decide_eq_false hq6; have z_hk7 := ne_of_beq_false hk7; have z_hk10 := ne_of_beq_false hk10; have z_hk12 := eq_of_beq hk12; have z_hq13 := eq_of_beq hq13; have z_hq14 := ne_of_beq_false hq14; have := h.kind; have := h.name; have := h.first; have := h.second; have := h.term; omega)⟩
                      | true =>
                        cases hq15 : decide (1 ≤ num) with
                        | false =>
                          go_enter Try.func100, Try.ntmps100
                          go_wp2
                          go_ret
                          exact ⟨false, rfl, below_alloc (Below.refl _ _) _, iff_of_false (by simp) (fun h => by have z_hq1 := of_decide_eq_false hq1; have z_hq2 := of_decide_eq_false hq2; have z_hq3 := ne_of_beq_false hq3; have z_hq4 := of_decide_eq_false hq4; have z_hq5 := of_decide_eq_false hq5; have z_hq6 := of_decide_eq_false hq6; have z_hk7 := ne_of_beq_false hk7; have z_hk10 := ne_of_beq_false hk10; have z_hk12 := eq_of_beq hk12; have z_hq13 := eq_of_beq hq13; have z_hq14 := eq_of_beq hq14; have z_hq15 := of_decide_eq_false hq15; have := h.kind; have := h.name; have := h.first; have := h.second; have := h.term; omega)⟩
                        | true =>
                          cases hq16 : decide (num ≤ 1000) with
                          | false =>
                            go_enter Try.func100, Try.ntmps100
                            go_wp2
                            go_ret
                            exact ⟨false, rfl, below_alloc (Below.refl _ _) _, iff_of_false (by simp) (fun h => by have z_hq1 := of_decide_eq_false hq1; have z_hq2 := of_decide_eq_false hq2; have z_hq3 := ne_of_beq_false hq3; have z_hq4 := of_decide_eq_false hq4; have z_hq5 := of_decide_eq_false hq5; have z_hq6 := of_decide_eq_false hq6; have z_hk7 := ne_of_beq_false hk7; have z_hk10 := ne_of_beq_false hk10; have z_hk12 := eq_of_beq hk12; have z_hq13 := eq_of_beq hq13; have z_hq14 := eq_of_beq hq14; have z_hq15 := of_decide_eq_true hq15; have z_hq16 := of_decide_eq_false hq16; have := h.kind; have := h.name; have := h.first; have := h.second; have := h.term; omega)⟩
                          | true =>
                            go_enter Try.func100, Try.ntmps100
                            go_wp2
                            go_ret
                            exact ⟨true, rfl, below_alloc (Below.refl _ _) _, iff_of_true rfl (by have z_hq1 := of_decide_eq_false hq1; have z_hq2 := of_decide_eq_false hq2; have z_hq3 := ne_of_beq_false hq3; have z_hq4 := of_decide_eq_false hq4; have z_hq5 := of_decide_eq_false hq5; have z_hq6 := of_decide_eq_false hq6; have z_hk7 := ne_of_beq_false hk7; have z_hk10 := ne_of_beq_false hk10; have z_hk12 := eq_of_beq hk12; have z_hq13 := eq_of_beq hq13; have z_hq14 := eq_of_beq hq14; have z_hq15 := of_decide_eq_true hq15; have z_hq16 := of_decide_eq_true hq16; exact ⟨by omega, by omega, by omega, by omega, by omega⟩)⟩
                  | false =>
                    cases hk17 : (k == 6) with
                    | true =>
                      cases hq18 : ((a.length : Int) == 0) with
                      | false =>
                        go_enter Try.func100, Try.ntmps100
                        go_wp2
                        go_ret
                        exact ⟨false, rfl, below_alloc (Below.refl _ _) _, iff_of_false (by simp) (fun h => by have z_hq1 := of_decide_eq_false hq1; have z_hq2 := of_decide_eq_false hq2; have z_hq3 := ne_of_beq_false hq3; have z_hq4 := of_decide_eq_false hq4; have z_hq5 := of_decide_eq_false hq5; have z_hq6 := of_decide_eq_false hq6; have z_hk7 := ne_of_beq_false hk7; have z_hk10 := ne_of_beq_false hk10; have z_hk12 := ne_of_beq_false hk12; have z_hk17 := eq_of_beq hk17; have z_hq18 := ne_of_beq_false hq18; have := h.kind; have := h.name; have := h.first; have := h.second; have := h.term; omega)⟩
                      | true =>
                        cases hq19 : ((b.length : Int) == 0) with
                        | false =>
                          go_enter Try.func100, Try.ntmps100
                          go_wp2
                          go_ret
                          exact ⟨false, rfl, below_alloc (Below.refl _ _) _, iff_of_false (by simp) (fun h => by have z_hq1 := of_decide_eq_false hq1; have z_hq2 := of_decide_eq_false hq2; have z_hq3 := ne_of_beq_false hq3; have z_hq4 := of_decide_eq_false hq4; have z_hq5 := of_decide_eq_false hq5; have z_hq6 := of_decide_eq_false hq6; have z_hk7 := ne_of_beq_false hk7; have z_hk10 := ne_of_beq_false hk10; have z_hk12 := ne_of_beq_false hk12; have z_hk17 := eq_of_beq hk17; have z_hq18 := eq_of_beq hq18; have z_hq19 := ne_of_beq_false hq19; have := h.kind; have := h.name; have := h.first; have := h.second; have := h.term; omega)⟩
                        | true =>
                          cases hq20 : decide (1 ≤ num) with
                          | false =>
                            go_enter Try.func100, Try.ntmps100
                            go_wp2
                            go_ret
                            exact ⟨false, rfl, below_alloc (Below.refl _ _) _, iff_of_false (by simp) (fun h => by have z_hq1 := of_decide_eq_false hq1; have z_hq2 := of_decide_eq_false hq2; have z_hq3 := ne_of_beq_false hq3; have z_hq4 := of_decide_eq_false hq4; have z_hq5 := of_decide_eq_false hq5; have z_hq6 := of_decide_eq_false hq6; have z_hk7 := ne_of_beq_false hk7; have z_hk10 := ne_of_beq_false hk10; have z_hk12 := ne_of_beq_false hk12; have z_hk17 := eq_of_beq hk17; have z_hq18 := eq_of_beq hq18; have z_hq19 := eq_of_beq hq19; have z_hq20 := of_decide_eq_false hq20; have := h.kind; have := h.name; have := h.first; have := h.second; have := h.term; omega)⟩
                          | true =>
                            cases hq21 : decide (num ≤ 1000) with
                            | false =>
                              go_enter Try.func100, Try.ntmps100
                              go_wp2
                              go_ret
                              exact ⟨false, rfl, below_alloc (Below.refl _ _) _, iff_of_false (by simp) (fun h => by have z_hq1 := of_decide_eq_false hq1; have z_hq2 := of_decide_eq_false hq2; have z_hq3 := ne_of_beq_false hq3; have z_hq4 := of_decide_eq_false hq4; have z_hq5 := of_decide_eq_false hq5; have z_hq6 := of_decide_eq_false hq6; have z_hk7 := ne_of_beq_false hk7; have z_hk10 := ne_of_beq_false hk10; have z_hk12 := ne_of_beq_false hk12; have z_hk17 := eq_of_beq hk17; have z_hq18 := eq_of_beq hq18; have z_hq19 := eq_of_beq hq19; have z_hq20 := of_decide_eq_true hq20; have z_hq21 := of_decide_eq_false hq21; have := h.kind; have := h.name; have := h.first; have := h.second; have := h.term; omega)⟩
                            | true =>
                              go_enter Try.func100, Try.ntmps100
                              go_wp2
                              go_ret
                              exact ⟨true, rfl, below_alloc (Below.refl _ _) _, iff_of_true rfl (by have z_hq1 := of_decide_eq_false hq1; have z_hq2 := of_decide_eq_false hq2; have z_hq3 := ne_of_beq_false hq3; have z_hq4 := of_decide_eq_false hq4; have z_hq5 := of_decide_eq_false hq5; have z_hq6 := of_decide_eq_false hq6; have z_hk7 := ne_of_beq_false hk7; have z_hk10 := ne_of_beq_false hk10; have z_hk12 := ne_of_beq_false hk12; have z_hk17 := eq_of_beq hk17; have z_hq18 := eq_of_beq hq18; have z_hq19 := eq_of_beq hq19; have z_hq20 := of_decide_eq_true hq20; have z_hq21 := of_decide_eq_true hq21; exact ⟨by omega, by omega, by omega, by omega, by omega⟩)⟩
                    | false =>
                      cases hq22 : ((a.length : Int) == 0) with
                      | false =>
                        go_enter Try.func100, Try.ntmps100
                        go_wp2
                        go_ret
                        exact ⟨false, rfl, below_alloc (Below.refl _ _) _, iff_of_false (by simp) (fun h => by have z_hq1 := of_decide_eq_false hq1; have z_hq2 := of_decide_eq_false hq2; have z_hq3 := ne_of_beq_false hq3; have z_hq4 := of_decide_eq_false hq4; have z_hq5 := of_decide_eq_false hq5; have z_hq6 := of_decide_eq_false hq6; have z_hk7 := ne_of_beq_false hk7; have z_hk10 := ne_of_beq_false hk10; have z_hk12 := ne_of_beq_false hk12; have z_hk17 := ne_of_beq_false hk17; have z_hq22 := ne_of_beq_false hq22; have := h.kind; have := h.name; have := h.first; have := h.second; have := h.term; omega)⟩
                      | true =>
                        cases hq23 : ((b.length : Int) == 0) with
                        | false =>
                          go_enter Try.func100, Try.ntmps100
                          go_wp2
                          go_ret
                          exact ⟨false, rfl, below_alloc (Below.refl _ _) _, iff_of_false (by simp) (fun h => by have z_hq1 := of_decide_eq_false hq1; have z_hq2 := of_decide_eq_false hq2; have z_hq3 := ne_of_beq_false hq3; have z_hq4 := of_decide_eq_false hq4; have z_hq5 := of_decide_eq_false hq5; have z_hq6 := of_decide_eq_false hq6; have z_hk7 := ne_of_beq_false hk7; have z_hk10 := ne_of_beq_false hk10; have z_hk12 := ne_of_beq_false hk12; have z_hk17 := ne_of_beq_false hk17; have z_hq22 := eq_of_beq hq22; have z_hq23 := ne_of_beq_false hq23; have := h.kind; have := h.name; have := h.first; have := h.second; have := h.term; omega)⟩
                        | true =>
                          cases hq24 : (num == 0) with
                          | false =>
                            go_enter Try.func100, Try.ntmps100
                            go_wp2
                            go_ret
                            exact ⟨false, rfl, below_alloc (Below.refl _ _) _, iff_of_false (by simp) (fun h => by have z_hq1 := of_decide_eq_false hq1; have z_hq2 := of_decide_eq_false hq2; have z_hq3 := ne_of_beq_false hq3; have z_hq4 := of_decide_eq_false hq4; have z_hq5 := of_decide_eq_false hq5; have z_hq6 := of_decide_eq_false hq6; have z_hk7 := ne_of_beq_false hk7; have z_hk10 := ne_of_beq_false hk10; have z_hk12 := ne_of_beq_false hk12; have z_hk17 := ne_of_beq_false hk17; have z_hq22 := eq_of_beq hq22; have z_hq23 := eq_of_beq hq23; have z_hq24 := ne_of_beq_false hq24; have := h.kind; have := h.name; have := h.first; have := h.second; have := h.term; omega)⟩
                          | true =>
                            go_enter Try.func100, Try.ntmps100
                            go_wp2
                            go_ret
                            exact ⟨true, rfl, below_alloc (Below.refl _ _) _, iff_of_true rfl (by have z_hq1 := of_decide_eq_false hq1; have z_hq2 := of_decide_eq_false hq2; have z_hq3 := ne_of_beq_false hq3; have z_hq4 := of_decide_eq_false hq4; have z_hq5 := of_decide_eq_false hq5; have z_hq6 := of_decide_eq_false hq6; have z_hk7 := ne_of_beq_false hk7; have z_hk10 := ne_of_beq_false hk10; have z_hk12 := ne_of_beq_false hk12; have z_hk17 := ne_of_beq_false hk17; have z_hq22 := eq_of_beq hq22; have z_hq23 := eq_of_beq hq23; have z_hq24 := eq_of_beq hq24; exact ⟨by omega, by omega, by omega, by omega, by omega⟩)⟩

end Go.Proofs.Ytophfoenaekfjaa

namespace Go.Proofs.Ytophfoenaekfjaa
open Go.RowKit Go.Proofs.YtophfoenaekfjaaW.PrintWords Go.Proofs.YtophfoenaekfjaaW.PrintLast Go.Proofs.YtophfoenaekfjaaW.PrintMore Go.Proofs.Ytophfoenaekfjaa.PSnapEncodes
set_option linter.unusedVariables false
set_option linter.unusedSimpArgs false

/-- What a call answers: rows in memory of its own. -/
structure PostE (w : World) (l : List S72) (e : Ending) (w' : World) : Prop where
  mk ::
  out : ∃ v, e = .returned v ∧ Kd.S k72 72 w' w.heap.size (fun _ => True) v l ∧ Below w.heap.size w w'
theorem OB.fresh {W : World} {base N : Nat} {v : Value} {xs : List Int} (h : OB W N v xs) (hN : base ≤ N) : (Kd.int .u8).R 5 W base (fun k => N ≤ k) v xs :=
  Kd.R_lower (Kd.R_mono (Kd.R_bound h.out) (fun _ hk => hk.2.1)) hN
theorem getD_mem_i {α : Type} (z : α) {xs : List α} {i : Int} (h0 : 0 ≤ i) (h1 : i < xs.length) : xs.getD i.toNat z ∈ xs := by
  have h : i.toNat < xs.length := by omega
  rw [List.getD_eq_getElem?_getD, List.getElem?_eq_getElem h]
  exact List.getElem_mem h
theorem take_more {α : Type} (z : α) {xs : List α} {x : Int} (h0 : 0 ≤ x) (h1 : x < xs.length) : xs.take x.toNat ++ [xs.getD x.toNat z] = xs.take (x + 1).toNat := by
  have e : (x + 1).toNat = x.toNat + 1 := by omega
  have hl : x.toNat < xs.length := by omega
  rw [e, List.take_add_one, List.getElem?_eq_getElem hl, List.getD_eq_getElem?_getD, List.getElem?_eq_getElem hl]
  rfl
set_option maxHeartbeats 4000000 in
set_option maxRecDepth 100000 in
theorem kv_clone (A0 : Option Addr) (c0 : Nat) (l : List S72) (w : World) (hr0 : Kd.C k72 w A0 l.length l) (hc0 : l.length ≤ c0) (hs : l.length ≤ 1048576 ∧ ∀ x ∈ l, x.f0.length ≤ 1048576 ∧ x.f1.length ≤ 1048576) :
    Calls Try.prog 92 #[.slice A0 l.length c0] w (PostE w l) := by
  have HR0 := Aside0.mk hr0
  have HSM := Aside0.mk hs.2
  have hl0 := hs.1
  clear hr0 hs
  go_enter Try.func92, Try.ntmps92
  go_wp2
  go_loopw [3, 8] (fun v3 v8 wr => ∃ x : Int, v8 = .int .i64 x ∧ 0 ≤ x ∧ x ≤ l.length ∧ Aside0 (Kd.S k72 72 wr w.heap.size (fun _ => True) v3 (l.take x.toNat)) ∧ Aside0 (Below w.heap.size w wr)) (fun _ v8 _ => l.length - (intOf v8).toNat)
  case atStart => exact ⟨0, rfl, by omega, by omega, ⟨Kd.S_nil _ _ _ _ _⟩, ⟨Below.refl _ _⟩⟩
  case round =>
    obtain ⟨x, rfl, h0, h1, HS, HB⟩ := hrel
    by_cases hlt : x < l.length
    · obtain ⟨ad, A, c, A2, c2, e1, hx0, hx1, hl, hn, hl2, hn2⟩ := at_T72 (Kd.C_below HR0.out HB.out) x (by omega) (by omega)
      subst e1
      have hm := HSM.out (rd_T72 l x) (getD_mem_i z72 h0 hlt)
      have hm0 := hm.1
      have hm1 := hm.2
      have HN := Aside0.mk hn
      have HN2 := Aside0.mk hn2
      have HWS := Aside0.mk (show w.heap.size ≤ wr.heap.size from HB.out.size)
      clear hn hn2 hm
      have HX := Aside0.mk (below_alloc (Below.refl wr.heap.size wr) (.cells #[.slice A (rd_T72 l x).f0.length c, .slice A2 (rd_T72 l x).f1.length c2] 72))
      have HK := Aside0.mk (blk_new wr (.cells #[.slice A (rd_T72 l x).f0.length c, .slice A2 (rd_T72 l x).f1.length c2] 72))
      go_wp2_with fail
      go_region_law (first | (go_simp; go_at_call 97; ((with_reducible refine (slices_Clone A c (rd_T72 l x).f0 _ (Kd.C_below HN.out (by repeat (first | exact HX.out | apply below_drew | apply pw_below_drewN))) (by omega)).mono ?_)); intro e wa hp; obtain ⟨v, he, ho, hb⟩ := hp.out; subst he; have HXo := HX; replace HX := Aside0.mk (below_step (by repeat (first | exact HX.out | apply below_drew | apply pw_below_drewN)) hb); (try replace HOa := Aside0.mk (OB.below HOa.out (below_step (by repeat (first | exact Below.refl _ _ | apply below_drew | apply pw_below_drewN)) hb))); (try replace HOb := Aside0.mk (OB.below HOb.out (below_step (by repeat (first | exact Below.refl _ _ | apply below_drew | apply pw_below_drewN)) hb))); obtain ⟨Ba, da, hv, hcc, hrr⟩ := ho.reads; subst hv; have HOa := Aside0.mk (ho.lower (base' := wr.heap.size) (below_size (by repeat (first | exact HXo.out | apply below_drew | apply pw_below_drewN)))); replace HK := Aside0.mk (blk_below HK.out (below_step (by repeat (first | exact Below.refl _ _ | apply below_drew | apply pw_below_drewN)) hb)); have hka0 : wa.cell? ⟨wr.heap.size, 0, none⟩ = some (.slice A (rd_T72 l x).f0.length c) := (blk_cell HK.out 0).trans rfl; have hka1 : wa.cell? ⟨wr.heap.size, 1, none⟩ = some (.slice A2 (rd_T72 l x).f1.length c2) := (blk_cell HK.out 1).trans rfl; clear ho hb hcc hrr HXo) | (go_simp; go_at_call 97; ((with_reducible refine (slices_Clone A2 c2 (rd_T72 l x).f1 _ (Kd.C_below HN2.out (by repeat (first | exact HX.out | apply below_drew | apply pw_below_drewN))) (by omega)).mono ?_)); intro e wb hp; obtain ⟨v, he, ho, hb⟩ := hp.out; subst he; have HXo := HX; replace HX := Aside0.mk (below_step (by repeat (first | exact HX.out | apply below_drew | apply pw_below_drewN)) hb); (try replace HOa := Aside0.mk (OB.below HOa.out (below_step (by repeat (first | exact Below.refl _ _ | apply below_drew | apply pw_below_drewN)) hb))); (try replace HOb := Aside0.mk (OB.below HOb.out (below_step (by repeat (first | exact Below.refl _ _ | apply below_drew | apply pw_below_drewN)) hb))); obtain ⟨Bb, db, hv, hcc, hrr⟩ := ho.reads; subst hv; have HOb := Aside0.mk (ho.lower (base' := wr.heap.size) (below_size (by repeat (first | exact HXo.out | apply below_drew | apply pw_below_drewN)))); replace HK := Aside0.mk (blk_below HK.out (below_step (by repeat (first | exact Below.refl _ _ | apply below_drew | apply pw_below_drewN)) hb)); have hkb0 : wb.cell? ⟨wr.heap.size, 0, none⟩ = some (.slice A (rd_T72 l x).f0.length c) := (blk_cell HK.out 0).trans rfl; have hkb1 : wb.cell? ⟨wr.heap.size, 1, none⟩ = some (.slice A2 (rd_T72 l x).f1.length c2) := (blk_cell HK.out 1).trans rfl; clear ho hb hcc hrr HXo) | (refine Kd.S_append_step k72 (w0 := w) w.heap.size rfl (.tmp 12) (.tmp 20) 22 72 (.agg #[.slice none 0 0, .slice none 0 0]) 48 rfl Try.underlying22 info72 rfl (by decide) (by omega) _ (l.take x.toNat) (⟨(rd_T72 l x).f0, (rd_T72 l x).f1⟩ : S72) [.slice Ba (rd_T72 l x).f0.length da, .slice Bb (rd_T72 l x).f1.length db] (fun _ => True) (fun k => wr.heap.size ≤ k) rfl rfl ?aP ?aK (fun _ _ => trivial) ?aO ?aB ?aS ?aL ?_; (case aP => exact k72_mkM _ _ _ _ (OB.fresh HOa.out HWS.out) (OB.fresh HOb.out HWS.out)); (case aK => exact (fun k hk => ⟨trivial, fun e => by have := Kd.S_lt HS.out k e.symm; omega⟩)); (case aO => exact Kd.S_mono (Kd.S_old HS.out HX.out) (fun k hk => ⟨trivial, by omega⟩)); (case aB => exact below_step HB.out HX.out); (case aS => exact below_size (below_step HB.out HX.out)); (case aL => rw [List.length_take]; omega); intro v4 w4 ho hb hg hat; have HO4 := Aside0.mk (show Kd.S k72 72 w4 w.heap.size (fun _ => True) v4 (l.take (x + 1).toNat) by rw [← take_more z72 h0 hlt]; exact ho); have HB4 := Aside0.mk hb; clear ho hb hg hat))
      all_goals
        go_wp2
        go_roundw
        case rel => exact ⟨x + 1, by go_num, by omega, by omega, HO4, HB4⟩
        case measure => simp [intOf]; omega
    · have hf := HS.out
      rw [List.take_of_length_le (by omega)] at hf
      have HF := Aside0.mk hf
      clear hf
      go_wp2
      go_ret
      exact ⟨_, rfl, HF.out, HB.out⟩

end Go.Proofs.Ytophfoenaekfjaa

namespace Go.Proofs.Ytophfoenaekfjaa
open Go.RowKit Go.Proofs.YtophfoenaekfjaaW.PrintWords Go.Proofs.YtophfoenaekfjaaW.PrintLast Go.Proofs.YtophfoenaekfjaaW.PrintMore Go.Proofs.Ytophfoenaekfjaa.PSnapEncodes
set_option linter.unusedVariables false
set_option linter.unusedSimpArgs false

theorem bl_irr : ∀ a : List UInt8, Op.bytesLess a a = false
  | [] => rfl
  | a :: t => by simp [Op.bytesLess, bl_irr t, UInt8.lt_irrefl]
theorem bl_trans : ∀ {a b c : List UInt8}, Op.bytesLess a b = true → Op.bytesLess b c = true → Op.bytesLess a c = true
  | _, [], _, h, _ => by cases ‹List UInt8› <;> simp [Op.bytesLess] at h
  | _, _ :: _, [], _, h => by simp [Op.bytesLess] at h
  | [], _ :: _, _ :: _, _, _ => rfl
  | a :: x, b :: y, c :: z, h, k => by
    simp only [Op.bytesLess, Bool.or_eq_true, decide_eq_true_eq, Bool.and_eq_true, beq_iff_eq] at h k ⊢
    rcases h with h | ⟨rfl, h⟩
    · rcases k with k | ⟨rfl, k⟩
      · exact .inl (UInt8.lt_trans h k)
      · exact .inl h
    · rcases k with k | ⟨rfl, k⟩
      · exact .inl k
      · exact .inr ⟨rfl, bl_trans h k⟩
theorem bl_tri : ∀ a b : List UInt8, Op.bytesLess a b = true ∨ a = b ∨ Op.bytesLess b a = true
  | [], [] => .inr (.inl rfl)
  | [], _ :: _ => .inl rfl
  | _ :: _, [] => .inr (.inr rfl)
  | a :: x, b :: y => by
    simp only [Op.bytesLess, Bool.or_eq_true, decide_eq_true_eq, Bool.and_eq_true, beq_iff_eq, List.cons.injEq]
    by_cases h1 : a < b
    · exact .inl (.inl h1)
    · by_cases h2 : b < a
      · exact .inr (.inr (.inl h2))
      · have : a = b := UInt8.le_antisymm (UInt8.not_lt.1 h2) (UInt8.not_lt.1 h1)
        subst this
        rcases bl_tri x y with h | h | h
        · exact .inl (.inr ⟨rfl, h⟩)
        · exact .inr (.inl ⟨rfl, h⟩)
        · exact .inr (.inr (.inr ⟨rfl, h⟩))
theorem less_irr (a : List Int) : lessB a a = false := bl_irr _
theorem less_trans {a b c : List Int} (h : lessB a b = true) (k : lessB b c = true) : lessB a c = true := bl_trans h k
theorem less_asym {a b : List Int} (h : lessB a b = true) : lessB b a = false := by
  cases k : lessB b a with
  | false => rfl
  | true => have := less_trans h k; rw [less_irr] at this; cases this
theorem same_iff {a b : List Int} : sameB a b = true ↔ sb a = sb b := by unfold sameB; exact beq_iff_eq
theorem same_irr {a b : List Int} (h : sameB a b = true) : lessB a b = false := by unfold lessB; rw [same_iff.1 h]; exact bl_irr _
theorem same_symm {a b : List Int} (h : sameB a b = true) : sameB b a = true := same_iff.2 (same_iff.1 h).symm
theorem same_comm (a b : List Int) : sameB a b = sameB b a := by
  cases h : sameB a b with
  | true => exact (same_symm h).symm
  | false => cases k : sameB b a with
    | false => rfl
    | true => rw [same_symm k] at h; cases h
theorem same_trans {a b c : List Int} (h : sameB a b = true) (k : sameB b c = true) : sameB a c = true := same_iff.2 ((same_iff.1 h).trans (same_iff.1 k))
theorem less_tri (a b : List Int) : lessB a b = true ∨ sameB a b = true ∨ lessB b a = true := by
  rcases bl_tri (sb a) (sb b) with h | h | h
  · exact .inl h
  · exact .inr (.inl (same_iff.2 h))
  · exact .inr (.inr h)
theorem less_same {a b c : List Int} (h : sameB a b = true) : lessB a c = lessB b c := by unfold lessB; rw [same_iff.1 h]
theorem less_same' {a b c : List Int} (h : sameB a b = true) : lessB c a = lessB c b := by unfold lessB; rw [same_iff.1 h]
theorem less_ne {a b : List Int} (h : lessB a b = true) : sameB a b = false := by
  cases k : sameB a b with
  | false => rfl
  | true => rw [same_irr k] at h; cases h
theorem cmp_lt_iff : ∀ a b : List UInt8, (Lib.compareBytes a b < 0 ↔ Op.bytesLess a b = true) ∧ (Lib.compareBytes a b = 0 ↔ a = b)
  | [], [] => by simp [Lib.compareBytes, Op.bytesLess]
  | [], _ :: _ => by simp [Lib.compareBytes, Op.bytesLess]
  | _ :: _, [] => by simp [Lib.compareBytes, Op.bytesLess]
  | a :: x, b :: y => by
    have ih := cmp_lt_iff x y
    simp only [Lib.compareBytes, Op.bytesLess]
    by_cases h1 : a < b
    · simp only [h1, if_true, decide_true, Bool.true_or]
      exact ⟨by simp, by simp; intro e; subst e; exact absurd h1 (UInt8.lt_irrefl _)⟩
    · by_cases h2 : b < a
      · have hne : ¬ a = b := fun e => by subst e; exact UInt8.lt_irrefl _ h2
        simp [h1, h2, hne]
      · have : a = b := UInt8.le_antisymm (UInt8.not_lt.1 h2) (UInt8.not_lt.1 h1)
        subst this
        simp [UInt8.lt_irrefl, ih.1, ih.2]
theorem cmp_neg {a b : List Int} : cmpB a b < 0 ↔ lessB a b = true := (cmp_lt_iff _ _).1
theorem cmp_zero {a b : List Int} : cmpB a b = 0 ↔ sameB a b = true := by rw [same_iff]; exact (cmp_lt_iff _ _).2
/-- Names that go up. -/
def SortN (ns : List (List Int)) : Prop := ∀ i j : Nat, i < j → j < ns.length → lessB (ns.getD i []) (ns.getD j []) = true
theorem sortN_of_step {ns : List (List Int)} (h : ∀ i : Nat, i + 1 < ns.length → lessB (ns.getD i []) (ns.getD (i + 1) []) = true) : SortN ns := by
  intro i j hij hj
  induction j with
  | zero => omega
  | succ j ih =>
    by_cases e : i = j
    · subst e; exact h i hj
    · exact less_trans (ih (by omega) (by omega)) (h j hj)
/-- i names are less than n: no other is. -/
structure Lb (ns : List (List Int)) (n : List Int) (i : Nat) : Prop where
  le : i ≤ ns.length
  lo : ∀ j, j < i → lessB (ns.getD j []) n = true
  hi : ∀ j, i ≤ j → j < ns.length → lessB (ns.getD j []) n = false
theorem Lb.uniq {ns : List (List Int)} {n : List Int} {i j : Nat} (h : Lb ns n i) (k : Lb ns n j) : i = j := by
  rcases Nat.lt_trichotomy i j with hlt | e | hlt
  · have a := h.hi i (Nat.le_refl _) (by have := k.le; omega)
    have b := k.lo i hlt
    rw [a] at b; cases b
  · exact e
  · have a := k.hi j (Nat.le_refl _) (by have := h.le; omega)
    have b := h.lo j hlt
    rw [a] at b; cases b
/-- How many names are less. -/
def lbN (ns : List (List Int)) (n : List Int) : Nat := (ns.takeWhile (fun x => lessB x n)).length
theorem lbN_le (ns : List (List Int)) (n : List Int) : lbN ns n ≤ ns.length := by
  unfold lbN
  induction ns with
  | nil => simp
  | cons x t ih =>
    rw [List.takeWhile_cons]
    split
    · simp only [List.length_cons]; omega
    · simp
theorem lbN_lo (ns : List (List Int)) (n : List Int) : ∀ j, j < lbN ns n → lessB (ns.getD j []) n = true := by
  unfold lbN
  induction ns with
  | nil => intro j hj; simp at hj
  | cons x t ih =>
    intro j hj
    rw [List.takeWhile_cons] at hj
    split at hj
    · rename_i hx
      cases j with
      | zero => exact hx
      | succ j => exact ih j (by simpa using hj)
    · simp at hj
theorem lbN_at (ns : List (List Int)) (n : List Int) (h : lbN ns n < ns.length) : lessB (ns.getD (lbN ns n) []) n = false := by
  unfold lbN at h ⊢
  induction ns with
  | nil => simp at h
  | cons x t ih =>
    rw [List.takeWhile_cons] at h ⊢
    split
    · rename_i hx
      rw [if_pos hx] at h
      simpa using ih (by simpa using h)
    · rename_i hx
      simpa using hx
theorem lbN_spec {ns : List (List Int)} (hs : SortN ns) (n : List Int) : Lb ns n (lbN ns n) where
  le := lbN_le _ _
  lo := lbN_lo _ _
  hi := by
    intro j h1 h2
    by_cases e : lbN ns n = j
    · subst e; exact lbN_at _ _ h2
    · have h3 := lbN_at ns n (by omega)
      have h4 := hs (lbN ns n) j (by omega) h2
      cases k : lessB (ns.getD j []) n with
      | false => rfl
      | true => rw [less_trans h4 k] at h3; cases h3
/-- Is the name there? -/
def fdN (ns : List (List Int)) (n : List Int) : Bool := decide (lbN ns n < ns.length) && sameB (ns.getD (lbN ns n) []) n
theorem fdN_iff {ns : List (List Int)} (hs : SortN ns) (n : List Int) : fdN ns n = true ↔ ∃ j, j < ns.length ∧ sameB (ns.getD j []) n = true := by
  unfold fdN
  rw [Bool.and_eq_true, decide_eq_true_eq]
  refine ⟨fun h => ⟨_, h⟩, fun ⟨j, h1, h2⟩ => ?_⟩
  have hl := lbN_spec hs n
  have e : j = lbN ns n := by
    rcases Nat.lt_trichotomy j (lbN ns n) with hlt | e | hlt
    · have := hl.lo j hlt; rw [same_irr h2] at this; cases this
    · exact e
    · have a := hs _ j hlt h1
      rw [less_same' h2] at a
      have := hl.hi _ (Nat.le_refl _) (by omega)
      rw [this] at a; cases a
  subst e
  exact ⟨h1, h2⟩

end Go.Proofs.Ytophfoenaekfjaa

namespace Go.Proofs.Ytophfoenaekfjaa
open Go.RowKit Go.Proofs.YtophfoenaekfjaaW.PrintWords Go.Proofs.YtophfoenaekfjaaW.PrintLast Go.Proofs.YtophfoenaekfjaaW.PrintMore Go.Proofs.Ytophfoenaekfjaa.PSnapEncodes
set_option linter.unusedVariables false
set_option linter.unusedSimpArgs false

/-- The names of entries. -/
def nm (l : List S72) : List (List Int) := l.map (·.f0)
theorem nm_len (l : List S72) : (nm l).length = l.length := by simp [nm]
theorem nm_at (l : List S72) (j : Nat) : (nm l).getD j [] = (l.getD j z72).f0 := by
  unfold nm
  rw [List.getD_eq_getElem?_getD, List.getD_eq_getElem?_getD, List.getElem?_map]
  cases l[j]? <;> rfl
theorem nm_rd (l : List S72) {x : Int} (h0 : 0 ≤ x) : (nm l).getD x.toNat [] = (rd_T72 l x).f0 := nm_at l _
theorem sortN_of_goodE {l : List S72} (h : goodE l) : SortN (nm l) := by
  refine sortN_of_step (fun i hi => ?_)
  rw [nm_len] at hi
  have := (h.2 ((i + 1 : Nat) : Int) (by omega) (by omega)).prev (by omega)
  unfold rd_T72 at this
  rw [show (((i + 1 : Nat) : Int) - 1).toNat = i by omega, Int.toNat_natCast] at this
  rw [nm_at, nm_at]
  exact this
structure PostBS (w : World) (ns : List (List Int)) (n : List Int) (e : Ending) (w' : World) : Prop where
  mk ::
  out : e = .returned (.tuple #[.int .i64 (lbN ns n), .bool (fdN ns n)]) ∧ Below w.heap.size w w'
set_option maxHeartbeats 4000000 in
set_option maxRecDepth 100000 in
theorem kv_closure (A A2 An : Option Addr) (c c2 cn : Nat) (a b n : List Int) (w : World) (ha : CB w A a) (hn : CB w An n) :
    Calls Try.prog 95 #[.agg #[.slice A a.length c, .slice A2 b.length c2], .slice An n.length cn] w fun e w' => e = .returned (.int .i64 (cmpB a n)) ∧ Below w.heap.size w w' := by
  have HA := Aside0.mk ha
  have HN := Aside0.mk hn
  clear ha hn
  go_enter Try.func95, Try.ntmps95
  go_wp2_with fail
  refine (bytes_Compare A An c cn a n _ (Kd.C_alloc HA.out _) (Kd.C_alloc HN.out _)).mono ?_
  rintro e w1 ⟨rfl, hd⟩
  have HB := Aside0.mk (below_step (below_alloc (Below.refl _ _) _) hd.below)
  clear hd
  go_wp2
  go_ret
  exact ⟨rfl, HB.out⟩
set_option maxHeartbeats 4000000 in
set_option maxRecDepth 100000 in
theorem kv_search (A0 An : Option Addr) (c0 cn : Nat) (l : List S72) (n : List Int) (w : World) (hr0 : Kd.C k72 w A0 l.length l) (hc0 : l.length ≤ c0) (hn : CB w An n) (hs : SortN (nm l)) (hl : l.length ≤ 1048576) :
    Calls Try.prog 94 #[.slice A0 l.length c0, .slice An n.length cn, .func (.func 95) #[] #[]] w (PostBS w (nm l) n) := by
  have HR0 := Aside0.mk hr0
  have HN := Aside0.mk hn
  have HSO := Aside0.mk hs
  clear hr0 hn hs
  go_enter Try.func94, Try.ntmps94
  go_wp2
  go_loopw [9, 10] (fun v9 v10 wr => ∃ x y : Int, v9 = .int .i64 x ∧ v10 = .int .i64 y ∧ 0 ≤ x ∧ x ≤ y ∧ y ≤ l.length ∧ Aside0 (∀ j, j < x.toNat → lessB ((nm l).getD j []) n = true) ∧ Aside0 (∀ j, y.toNat ≤ j → j < (nm l).length → lessB ((nm l).getD j []) n = false) ∧ Aside0 (Below w.heap.size w wr)) (fun v9 v10 _ => (intOf v10).toNat - (intOf v9).toNat)
  case atStart => exact ⟨0, l.length, rfl, rfl, by omega, by omega, by omega, ⟨fun j hj => by simp at hj⟩, ⟨fun j h1 h2 => by rw [nm_len] at h2; rw [Int.toNat_natCast] at h1; omega⟩, ⟨Below.refl _ _⟩⟩
  case round =>
    obtain ⟨x, y, rfl, rfl, h0, h1, h2, HLO, HHI, HB⟩ := hrel
    have HNW := Aside0.mk (Kd.C_below HN.out HB.out)
    by_cases hlt : x < y
    · have hm0 : 0 ≤ (x + y) / 2 := by omega
      have hm1 : (x + y) / 2 < l.length := by omega
      obtain ⟨ad, A, c, A2, c2, e1, hx0, hx1, hl0, hn0, hl2, hn2⟩ := at_T72 (Kd.C_below HR0.out HB.out) ((x + y) / 2) hm0 hm1
      subst e1
      have HE := Aside0.mk hn0
      clear hn0 hn2
      go_wp2_with fail
      refine (kv_closure _ _ _ _ _ _ _ _ _ _ HE.out HNW.out).mono ?_
      rintro e w1 ⟨rfl, hb⟩
      have HB1 := Aside0.mk (below_step HB.out hb)
      clear hb
      have HM := Aside0.mk (nm_rd l hm0)
      cases hq : decide (cmpB (rd_T72 l ((x + y) / 2)).f0 n < 0) with
      | true =>
        have HQ := Aside0.mk (cmp_neg.1 (of_decide_eq_true hq))
        go_wp2_with fail
        go_roundw
        case rel => exact ⟨(x + y) / 2 + 1, y, by go_num, rfl, by omega, by omega, by omega, ⟨fun j hj => by
          by_cases e : j = ((x + y) / 2).toNat
          · rw [e, HM.out]; exact HQ.out
          · exact less_trans (HSO.out j ((x + y) / 2).toNat (by omega) (by rw [nm_len]; omega)) (by rw [HM.out]; exact HQ.out)⟩, HHI, HB1⟩
        case measure => simp [intOf]; omega
      | false =>
        have HQ := Aside0.mk (show lessB (rd_T72 l ((x + y) / 2)).f0 n = false from eq_false_of_ne_true (fun h => of_decide_eq_false hq (cmp_neg.2 h)))
        go_wp2_with fail
        go_roundw
        case rel => exact ⟨x, (x + y) / 2, rfl, rfl, by omega, by omega, by omega, HLO, ⟨fun j hj h3 => by
          by_cases e : j = ((x + y) / 2).toNat
          · rw [e, HM.out]; exact HQ.out
          · refine eq_false_of_ne_true (fun h => ?_)
            have h5 := HSO.out ((x + y) / 2).toNat j (by omega) h3
            have h6 := less_trans h5 h
            rw [HM.out, HQ.out] at h6
            cases h6⟩, HB1⟩
        case measure => simp [intOf]; omega
    · have hxy : y = x := by omega
      subst hxy
      have HLB := Aside0.mk ((Lb.mk (by rw [nm_len]; omega) HLO.out HHI.out : Lb (nm l) n y.toNat).uniq (lbN_spec HSO.out n))
      have hy := h0
      by_cases hx : y < l.length
      · obtain ⟨ad, A, c, A2, c2, e1, hx0, hx1, hl0, hn0, hl2, hn2⟩ := at_T72 (Kd.C_below HR0.out HB.out) y h0 hx
        subst e1
        have HE := Aside0.mk hn0
        clear hn0 hn2
        have HM := Aside0.mk (nm_rd l h0)
        go_wp2_with fail
        refine (kv_closure _ _ _ _ _ _ _ _ _ _ HE.out HNW.out).mono ?_
        rintro e w1 ⟨rfl, hb⟩
        have HB1 := Aside0.mk (below_step HB.out hb)
        clear hb
        have HFD := Aside0.mk (show fdN (nm l) n = (cmpB (rd_T72 l y).f0 n == 0) by
          unfold fdN
          rw [← HLB.out, HM.out, decide_eq_true (by rw [nm_len]; omega), Bool.true_and]
          rw [Bool.eq_iff_iff, ← cmp_zero, beq_iff_eq])
        go_wp2_with fail
        go_ret2
        exact ⟨by (rw [HFD.out, ← HLB.out, Int.toNat_of_nonneg h0]); first | done | rfl, HB1.out⟩
      · have HFD := Aside0.mk (show fdN (nm l) n = false by
          unfold fdN
          rw [← HLB.out, decide_eq_false (by rw [nm_len]; omega), Bool.false_and])
        go_wp2_with fail
        go_ret2
        exact ⟨by (rw [HFD.out, ← HLB.out, Int.toNat_of_nonneg h0]); first | done | rfl, HB.out⟩

end Go.Proofs.Ytophfoenaekfjaa

