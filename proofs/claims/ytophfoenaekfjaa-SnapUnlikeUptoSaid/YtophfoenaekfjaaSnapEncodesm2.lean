/- Parts of the proof of SnapEncodes: The reference's Right tells a right state; no condition. Rows of bytes of a call's own: what is known of them, and appending to them. octet.Int and the reference's Int make a number's bytes; no condition. slices.Clone of bytes; a text with its length ahead. The reference's nums; no condition. A number read from bytes. A number read from bytes, by the document. -/
import Derived.Test.YtophfoenaekfjaaSnapEncodesm1
import Derived.WalkSpells
import Derived.Lib.BufferMore
import Derived.Outline
namespace Go.Proofs.Ytophfoenaekfjaa
open Go.RowKit Go.Proofs.YtophfoenaekfjaaW.PrintWords Go.Proofs.YtophfoenaekfjaaW.PrintLast Go.Proofs.YtophfoenaekfjaaW.PrintMore Go.Proofs.Ytophfoenaekfjaa.PSnapEncodes
set_option linter.unusedVariables false
set_option linter.unusedSimpArgs false
set_option maxHeartbeats 4000000 in
set_option maxRecDepth 100000 in
theorem ref09_Right (a0 : Int) (A1 A2 A3 : Option Addr) (c1 c2 c3 : Nat) (l1 : List S72) (l2 : List S87) (l3 : List S97) (w : World) (h1 : Kd.C k72 w A1 l1.length l1) (m1 : l1.length ≤ c1) (h2 : Kd.C k87 w A2 l2.length l2) (m2 : l2.length ≤ c2) (h3 : Kd.C k97 w A3 l3.length l3) (m3 : l3.length ≤ c3) :
    Calls Try.prog 63 #[.agg #[.int .i64 a0, .slice A1 l1.length c1, .slice A2 l2.length c2, .slice A3 l3.length c3]] w (PostB w fun b => (b = true ↔ goodA a0 l1 l2 l3)) := by
  have hlen := h3.2.1
  have H1 := Aside0.mk h1
  have H2 := Aside0.mk h2
  have H3 := Aside0.mk h3
  clear h1 h2 h3
  have HB := Aside0.mk (Below.refl (w.heap.size + 1) (w.alloc (.cells #[.int .i64 a0, .slice A1 l1.length c1, .slice A2 l2.length c2, .slice A3 l3.length c3] 26)))
  cases hp0 : decide (a0 < 0) with
  | true =>
    go_enter Try.func63, Try.ntmps63
    go_wp2
    go_ret
    exact ⟨false, rfl, below_of_alloc HB.out, iff_of_false (by simp) (fun h => by have := of_decide_eq_true hp0; have := h.slot; omega)⟩
  | false =>
    cases hp1 : decide (1000000 < a0) with
    | true =>
      go_enter Try.func63, Try.ntmps63
      go_wp2
      go_ret
      exact ⟨false, rfl, below_of_alloc HB.out, iff_of_false (by simp) (fun h => by have := of_decide_eq_true hp1; have := h.slot; omega)⟩
    | false =>
      go_enter Try.func63, Try.ntmps63
      go_wp2_with fail
      refine (ref07_Right _ _ _ _ (C_old H1.out HB.out) m1).mono ?_
      rintro e w1 ⟨b, rfl, hb, hiff⟩
      have HB1 := Aside0.mk (HB.out.trans (hb.mono (by simp)))
      have HS1 : w.heap.size + 1 ≤ w1.heap.size := by simpa using HB1.out.size
      clear hb HB
      have hb2 := box_cell HB1.out 2 _ rfl
      have HI := Aside0.mk hiff
      clear hiff
      cases b with
      | false =>
        go_wp2
        go_ret
        exact ⟨false, rfl, below_of_alloc HB1.out, iff_of_false (by simp) (fun h => by have := HI.out.2 h.ent; cases this)⟩
      | true =>
        go_wp2_with fail
        refine (ref08_Right _ _ _ _ (C_old H2.out HB1.out) m2).mono ?_
        rintro e w2 ⟨b, rfl, hb, hiff⟩
        have HB2 := Aside0.mk (HB1.out.trans (hb.mono HS1))
        have HS2 : w.heap.size + 1 ≤ w2.heap.size := by simpa using HB2.out.size
        clear hb HB1 HS1 hb2
        have hb3 := box_cell HB2.out 3 _ rfl
        have HI2 := Aside0.mk hiff
        clear hiff
        cases b with
        | false =>
          go_wp2
          go_ret
          exact ⟨false, rfl, below_of_alloc HB2.out, iff_of_false (by simp) (fun h => by have := HI2.out.2 h.lea; cases this)⟩
        | true =>
          go_wp2
          go_loopw [3, 29] (fun v3 v wr => ∃ last x : Int, v3 = .int .i64 last ∧ v = .int .i64 x ∧ 0 ≤ x ∧ x ≤ l3.length ∧ Aside0 ((x = 0 → last = 0) ∧ (0 < x → last = (rd_T97 l3 (x - 1)).f0)) ∧ Aside0 (Below (w.heap.size + 1) (w.alloc (.cells #[.int .i64 a0, .slice A1 l1.length c1, .slice A2 l2.length c2, .slice A3 l3.length c3] 26)) wr) ∧ Aside0 (∀ j, 0 ≤ j → j < x → goodS1 l3 j)) (fun _ v _ => l3.length - (intOf v).toNat)
          case atStart => exact ⟨0, 0, rfl, rfl, by omega, by omega, ⟨⟨fun _ => rfl, fun h => by omega⟩⟩, HB2, ⟨fun j h1 => by omega⟩⟩
          case round =>
            clear HB2 HS2 hb3
            obtain ⟨last, x, rfl, rfl, h0, hi, HL, HB, HA⟩ := hrel
            have HS : w.heap.size + 1 ≤ wr.heap.size := by simpa using HB.out.size
            by_cases hlt : x < l3.length
            · obtain ⟨ad, A, c, e1, hx0, hx1, hx2, hx3, hl, hn⟩ := at_T97 (C_old H3.out HB.out) x (by omega) (by omega)
              subst e1
              clear hn
              cases hq0 : decide ((rd_T97 l3 x).f0 ≤ last) with
              | true =>
                go_wp2
                go_ret
                exact ⟨false, rfl, below_of_alloc (by repeat (first | exact HB.out | refine below1_alloc ?_ _ HS | apply below1_drewN)), iff_of_false (by simp) (fun h => by have e := (h.ses x h0 hlt); have e1 := e.num; have e2 := e.prev; have e3 := of_decide_eq_true hq0; have e4 := HL.out.1; have e5 := HL.out.2; by_cases hx : x = 0 <;> omega)⟩
              | false =>
                cases hq1 : decide (4 < (rd_T97 l3 x).f0) with
                | true =>
                  go_wp2
                  go_ret
                  exact ⟨false, rfl, below_of_alloc (by repeat (first | exact HB.out | refine below1_alloc ?_ _ HS | apply below1_drewN)), iff_of_false (by simp) (fun h => by have e := (h.ses x h0 hlt).num; exact absurd (of_decide_eq_true hq1) (by omega))⟩
                | false =>
                  cases hq2 : decide ((rd_T97 l3 x).f1 < 1) with
                  | true =>
                    go_wp2
                    go_ret
                    exact ⟨false, rfl, below_of_alloc (by repeat (first | exact HB.out | refine below1_alloc ?_ _ HS | apply below1_drewN)), iff_of_false (by simp) (fun h => by have e := (h.ses x h0 hlt).num; exact absurd (of_decide_eq_true hq2) (by omega))⟩
                  | false =>
                    cases hq3 : decide (2147483647 < (rd_T97 l3 x).f1) with
                    | true =>
                      go_wp2
                      go_ret
                      exact ⟨false, rfl, below_of_alloc (by repeat (first | exact HB.out | refine below1_alloc ?_ _ HS | apply below1_drewN)), iff_of_false (by simp) (fun h => by have e := (h.ses x h0 hlt).num; exact absurd (of_decide_eq_true hq3) (by omega))⟩
                    | false =>
                      cases hq4 : decide ((rd_T97 l3 x).f2.f0 < 0) with
                      | true =>
                        go_wp2
                        go_ret
                        exact ⟨false, rfl, below_of_alloc (by repeat (first | exact HB.out | refine below1_alloc ?_ _ HS | apply below1_drewN)), iff_of_false (by simp) (fun h => by have e := (h.ses x h0 hlt).num; exact absurd (of_decide_eq_true hq4) (by omega))⟩
                      | false =>
                        cases hq5 : decide (6 < (rd_T97 l3 x).f2.f0) with
                        | true =>
                          go_wp2
                          go_ret
                          exact ⟨false, rfl, below_of_alloc (by repeat (first | exact HB.out | refine below1_alloc ?_ _ HS | apply below1_drewN)), iff_of_false (by simp) (fun h => by have e := (h.ses x h0 hlt).num; exact absurd (of_decide_eq_true hq5) (by omega))⟩
                        | false =>
                          cases hq6 : decide ((64 : Int) < ((rd_T97 l3 x).f2.f1.length : Int)) with
                          | true =>
                            go_wp2
                            go_ret
                            exact ⟨false, rfl, below_of_alloc (by repeat (first | exact HB.out | refine below1_alloc ?_ _ HS | apply below1_drewN)), iff_of_false (by simp) (fun h => by have e := (h.ses x h0 hlt).num; exact absurd (of_decide_eq_true hq6) (by omega))⟩
                          | false =>
                            go_wp2
                            go_roundw
                            case rel =>
                              have z0 := of_decide_eq_false hq0
                              have z1 := of_decide_eq_false hq1
                              have z2 := of_decide_eq_false hq2
                              have z3 := of_decide_eq_false hq3
                              have z4 := of_decide_eq_false hq4
                              have z5 := of_decide_eq_false hq5
                              have z6 := of_decide_eq_false hq6
                              have e4 := HL.out.1
                              have e5 := HL.out.2
                              have hg1 : 1 ≤ (rd_T97 l3 x).f0 := by
                                by_cases hx : x = 0
                                · have := e4 hx; omega
                                · have g := (HA.out (x - 1) (by omega) (by omega)).num
                                  have := e5 (by omega)
                                  omega
                              have hg : goodS1 l3 x := ⟨by omega, fun e => by have := e5 e; omega⟩
                              exact ⟨(rd_T97 l3 x).f0, x + 1, rfl, by go_num, by omega, by omega, ⟨⟨fun e => by omega, fun e => by rw [Int.add_sub_cancel]⟩⟩, ⟨by repeat (first | exact HB.out | refine below1_alloc ?_ _ HS | apply below1_drewN)⟩, ⟨fun j h1 h2 => if e : j = x then by rw [e]; exact hg else HA.out j h1 (by omega)⟩⟩
                            case measure => simp [intOf]; omega
            · go_wp2
              go_ret
              exact ⟨true, rfl, below_of_alloc HB.out, iff_of_true rfl ⟨by have := of_decide_eq_false hp0; have := of_decide_eq_false hp1; omega, HI.out.1 (by simp), HI2.out.1 (by simp), fun y h1 h2 => HA.out y h1 (by omega)⟩⟩

end Go.Proofs.Ytophfoenaekfjaa

namespace Go.Proofs.Ytophfoenaekfjaa
open Go.RowKit Go.Proofs.YtophfoenaekfjaaW.PrintWords Go.Proofs.YtophfoenaekfjaaW.PrintLast Go.Proofs.YtophfoenaekfjaaW.PrintMore Go.Proofs.Ytophfoenaekfjaa.PSnapEncodes
set_option linter.unusedVariables false
set_option linter.unusedSimpArgs false

/-- A row of bytes of the call's own (its block is none of those below base). -/
structure OB (w : World) (base : Nat) (v : Value) (l : List Int) : Prop where
  out : (Kd.int .u8).R 5 w base (fun _ => True) v l
abbrev CB (w : World) (A : Option Addr) (l : List Int) : Prop := (Kd.int .u8).C w A l.length l
section
variable {w w1 W : World} {base base' : Nat} {v : Value} {l : List Int}
theorem OB.reads (h : OB w base v l) : ∃ A c, v = .slice A l.length c ∧ l.length ≤ c ∧ CB w A l := Kd.R_reads h.out
theorem OB.reads' {A : Option Addr} {n c : Nat} (h : OB w base (.slice A n c) l) : n = l.length ∧ n ≤ c ∧ CB w A l := Kd.R_reads' h.out
theorem OB.below (h : OB w base v l) (hb : Below w.heap.size w w1) : OB w1 base v l := ⟨Kd.R_below h.out hb⟩
theorem OB.grown (h : OB w base v l) {row : Option Nat} (hg : w.grownBy w1 row) (hne : ∀ k, v.ownBlock = some k → some k ≠ row) : OB w1 base v l :=
  ⟨Kd.R_mono (Kd.R_grown (Kd.R_tight rfl h.out) hg (fun k hk => hne k hk.symm)) (fun _ _ => trivial)⟩
theorem OB.lower (h : OB w base v l) (hb : base' ≤ base) : OB w base' v l := ⟨Kd.R_lower h.out hb⟩
theorem OB.base_le (h : OB w base v l) : ∀ k, v.ownBlock = some k → base ≤ k := Kd.R_base h.out
theorem OB.lt (h : OB w base v l) : ∀ k, v.ownBlock = some k → k < w.heap.size := Kd.R_lt h.out
theorem OB_nil (w : World) (base : Nat) : OB w base (.slice none 0 0) [] := ⟨Kd.R_nil _ _ _ _ _⟩
/-- What lies below the row's base is as it was. -/
theorem below_grown' {B : Nat} {w w1 w2 : World} (h : Below B w w1) {v : Value} {l : List Int} (ho : OB w1 B v l) (hB : B ≤ w1.heap.size) (hg : w1.grownBy w2 v.ownBlock) : Below B w w2 := h.grown hg hB ho.base_le
end
theorem C_lit1 (W : World) (x : Int) : (Kd.int .u8).C (W.alloc (.cells #[.int .u8 x] 5)) (some ⟨W.heap.size, 0, none⟩) 1 [x] := by
  refine ⟨rfl, by omega, fun _ => ⟨_, rfl, fun j p hj => ?_⟩⟩
  obtain ⟨hjl, hjp⟩ := List.getElem?_eq_some_iff.1 hj
  have hj0 : j = 0 := by simp at hjl; omega
  subst hj0
  refine ⟨[.int .u8 x], rfl, by rw [← hjp]; rfl, fun i u hu => ?_⟩
  obtain ⟨hil, hiu⟩ := List.getElem?_eq_some_iff.1 hu
  have hi0 : i = 0 := by simp at hil; omega
  subst hi0
  rw [← hiu]
  exact (blk_cell (heap_alloc_new W _) 0).trans rfl
section
variable {ops : Array Oper} {rest : List Oper} {o : Oper} {a : Act} {Q : Exit → Act → World → Prop}
/-- append(v, ys...), of bytes. -/
theorem ob_append {W : World} {base : Nat} {v : Value} {xs ys : List Int} {A : Option Addr} {m c : Nat} (hgd : o.guard = none) (s x : Operand)
    (ho : o.op = .call { callee := .builtin .append, args := #[s, x], argTypes := #[29, 29] })
    (hs : a.eval s = v) (hx : a.eval x = .slice A m c) (HO : OB W base v xs) (HR : (Kd.int .u8).C W A m ys) (hbase : base ≤ W.heap.size) (hl : xs.length + m ≤ 140737488355328)
    (h : ∀ v1 w1, OB w1 base v1 (xs ++ ys) → W.grownBy w1 v.ownBlock → (v1.ownBlock = v.ownBlock ∨ ∃ b, v1.ownBlock = some b ∧ W.heap.size ≤ b) → wpList Try.prog ops Q rest (a.put o.dst v1) w1) :
    wpList Try.prog ops Q (o :: rest) a W :=
  Kd.R_append_rows (Kd.int .u8) (w0 := W) base hgd s x 29 5 (.int .u8 0) 1 ho Try.underlying29 info5 rfl (by decide) (by omega) v xs ys A m c (fun _ => True) (fun _ => False) hs hx HO.out HR (fun _ _ h => h) (fun _ h => h.elim) (fun _ _ => trivial) (Below.refl _ _) hbase (by omega)
    (fun v1 w1 h1 _ hg hat => h v1 w1 ⟨h1⟩ hg hat)
/-- []byte{..}: cells known. -/
theorem ob_lit {W : World} (xs : List Int) (inner : List Value) (hgd : o.guard = none) {N : Tmp} (hd : o.dst = some N)
    (hrun : (execOp a.eval o).run Try.prog W = .ok (.value (.slice (some ⟨W.heap.size, 0, none⟩) xs.length xs.length)) (W.alloc (.cells inner.toArray 5)))
    (hin : inner = xs.map (Value.int .u8)) (hm : xs.length ≤ 9223372036854775807)
    (h : ∀ v1 w1, OB w1 W.heap.size v1 xs → Below W.heap.size W w1 → wpList Try.prog ops Q rest (a.put o.dst v1) w1) : wpList Try.prog ops Q (o :: rest) a W :=
  Kd.R_lit (Kd.int .u8) W.heap.size 5 hgd hd (ok := fun _ => True) (okp := fun _ => True) hrun
    (by subst hin; refine ⟨by simp [Kd.int, Kd.scalar], fun j p hj => ?_⟩
        show ((xs.map (Value.int .u8)).drop (j * 1)).take 1 = [.int .u8 p]
        have hj' : (xs.map (Value.int .u8))[j]? = some (.int .u8 p) := by rw [List.getElem?_map, hj]; rfl
        obtain ⟨hjl, hjp⟩ := List.getElem?_eq_some_iff.1 hj'
        rw [Nat.mul_one, List.drop_eq_getElem_cons hjl, hjp]
        rfl) (fun _ h => h) trivial (Below.refl _ _) (Nat.le_refl _) hm
    (fun v1 w1 h1 hb _ _ => h v1 w1 ⟨h1⟩ hb)
end

end Go.Proofs.Ytophfoenaekfjaa

namespace Go.Proofs.Ytophfoenaekfjaa
open Go.RowKit Go.Proofs.YtophfoenaekfjaaW.PrintWords Go.Proofs.YtophfoenaekfjaaW.PrintLast Go.Proofs.YtophfoenaekfjaaW.PrintMore Go.Proofs.Ytophfoenaekfjaa.PSnapEncodes
set_option linter.unusedVariables false
set_option linter.unusedSimpArgs false

/-- A number's bytes. -/
def vint (n : Nat) : List Int := if h : n < 128 then [(n : Int)] else ((n % 128 + 128 : Nat) : Int) :: vint (n / 128)
termination_by n
theorem vint_small {n : Nat} (h : n < 128) : vint n = [(n : Int)] := by rw [vint]; simp [h]
theorem vint_big {n : Nat} (h : ¬ n < 128) : vint n = ((n % 128 + 128 : Nat) : Int) :: vint (n / 128) := by rw [vint]; simp [h]
theorem vint_len (n : Nat) : (vint n).length ≤ n + 1 := by
  induction n using Nat.strongRecOn with
  | _ n ih =>
    by_cases h : n < 128
    · rw [vint_small h]; simp
    · rw [vint_big h]
      have := ih (n / 128) (by omega)
      simp only [List.length_cons]
      omega
theorem vint_len5 (n : Nat) (h : n ≤ 2147483647) : (vint n).length ≤ 5 := by
  have s : ∀ m : Nat, m < 128 → (vint m).length = 1 := fun m hm => by rw [vint_small hm]; rfl
  have b : ∀ m : Nat, ¬ m < 128 → (vint m).length = (vint (m / 128)).length + 1 := fun m hm => by rw [vint_big hm]; rfl
  by_cases h1 : n < 128
  · rw [s n h1]; omega
  rw [b n h1]
  by_cases h2 : n / 128 < 128
  · rw [s _ h2]; omega
  rw [b _ h2]
  by_cases h3 : n / 128 / 128 < 128
  · rw [s _ h3]; omega
  rw [b _ h3]
  by_cases h4 : n / 128 / 128 / 128 < 128
  · rw [s _ h4]; omega
  rw [b _ h4, s _ (by omega)]
  omega
def okInt (n : Int) : Prop := 0 ≤ n ∧ n ≤ 2147483647
/-- octet.Int: the bytes, the error. -/
structure PostI (w : World) (n : Int) (e : Ending) (w' : World) : Prop where
  mk ::
  out : ∃ v b er, e = .returned (.tuple #[v, .int .i64 er]) ∧ OB w' w.heap.size v b ∧ Below w.heap.size w w' ∧ (okInt n → b = vint n.toNat ∧ er = 0) ∧ (¬ okInt n → b = [] ∧ er = 14)
theorem or128 (x : Int) (h0 : 0 ≤ x) (h1 : x ≤ 255) : Go.bits .or .u8 x 128 = x % 128 + 128 := by
  have h : ∀ y : Fin 256, Go.bits .or .u8 (y.val : Int) 128 = (y.val : Int) % 128 + 128 := by decide +kernel
  have := h ⟨x.toNat, by omega⟩
  simp only [Int.toNat_of_nonneg h0] at this
  exact this
theorem vint_step {m : Int} (h1 : 128 ≤ m) (pre : List Int) : (pre ++ [Go.bits .or .u8 (m % 256) 128]) ++ vint (m / 128).toNat = pre ++ vint m.toNat := by
  rw [vint_big (n := m.toNat) (by omega), or128 (m % 256) (by omega) (by omega), List.append_assoc]
  have e1 : (m / 128).toNat = m.toNat / 128 := by omega
  have e2 : m % 256 % 128 + 128 = ((m.toNat % 128 + 128 : Nat) : Int) := by omega
  rw [e1, e2]
  rfl
theorem vint_cons {m : Int} (h1 : 128 ≤ m) : [m % 128 + 128] ++ vint (m / 128).toNat = vint m.toNat := by
  rw [vint_big (n := m.toNat) (by omega)]
  have e1 : (m / 128).toNat = m.toNat / 128 := by omega
  have e2 : m % 128 + 128 = ((m.toNat % 128 + 128 : Nat) : Int) := by omega
  rw [e1, e2]
  rfl
theorem vint_last {m : Int} (h0 : 0 ≤ m) (h1 : ¬ 128 ≤ m) : [m % 256] = vint m.toNat := by
  rw [vint_small (by omega)]
  have e : m % 256 = ((m.toNat : Nat) : Int) := by omega
  rw [e]
set_option maxHeartbeats 4000000 in
set_option maxRecDepth 100000 in
theorem octet_Int (n : Int) (w : World) (hn : -9223372036854775808 ≤ n ∧ n ≤ 9223372036854775807) : Calls Try.prog 67 #[.int .i64 n] w (PostI w n) := by
  cases hq0 : decide (n < 0) with
  | true =>
    go_enter Try.func67, Try.ntmps67
    go_wp2
    go_ret2
    exact ⟨_, [], 14, rfl, OB_nil _ _, Below.refl _ _, fun h => absurd h.1 (by have := of_decide_eq_true hq0; omega), fun _ => ⟨rfl, rfl⟩⟩
  | false =>
    cases hq1 : decide (2147483647 < n) with
    | true =>
      go_enter Try.func67, Try.ntmps67
      go_wp2
      go_ret2
      exact ⟨_, [], 14, rfl, OB_nil _ _, Below.refl _ _, fun h => absurd h.2 (by have := of_decide_eq_true hq1; omega), fun _ => ⟨rfl, rfl⟩⟩
    | false =>
      have hn0 : 0 ≤ n := by have := of_decide_eq_false hq0; omega
      have hn1 : n ≤ 2147483647 := by have := of_decide_eq_false hq1; omega
      have HN := Aside0.mk (And.intro hn0 hn1)
      go_enter Try.func67, Try.ntmps67
      go_wp2
      go_loopw [0, 4] (fun v0 v4 wr => ∃ (m : Int) (pre : List Int), v0 = .int .i64 m ∧ 0 ≤ m ∧ m ≤ 2147483647 ∧ Aside0 (pre ++ vint m.toNat = vint n.toNat) ∧ Aside0 (OB wr w.heap.size v4 pre) ∧ Aside0 (Below w.heap.size w wr)) (fun v0 _ _ => (intOf v0).toNat)
      case atStart => exact ⟨n, [], rfl, hn0, hn1, ⟨rfl⟩, ⟨OB_nil _ _⟩, ⟨Below.refl _ _⟩⟩
      case round =>
        obtain ⟨m, pre, rfl, h0, h1, HP, HO, HB⟩ := hrel
        clear hn0 hn1 hq0 hq1
        have HS : w.heap.size ≤ wr.heap.size := HB.out.size
        have HL := Aside0.mk (show pre.length ≤ 2147483648 by have := congrArg List.length HP.out; have h2 := vint_len n.toNat; have h3 := HN.out; rw [List.length_append] at this; omega)
        cases hq : decide (128 ≤ m) with
        | true =>
          have H1 := Aside0.mk (of_decide_eq_true hq)
          go_wp2_with (first | ((with_reducible refine gate_builtin (b := .append) (xs := #[.tmp 13, .tmp 17]) rfl ?_); at_builtin; refine ob_append rfl (.tmp 13) (.tmp 17) rfl rfl rfl (HO.out.below (below_alloc (Below.refl _ _) _)) (C_lit1 _ _) ?hb ?hl ?_; (case hb => exact (by simp; omega)); (case hl => exact (by have := HL.out; omega)); intro v1 w1 ho hg hat; have HO1 := Aside0.mk ho; have HB1 := Aside0.mk (below_grown' (below1_alloc HB.out _ HS) (HO.out.below (below_alloc (Below.refl _ _) _)) (by simp; omega) hg); clear ho hg hat))
          go_roundw
          case rel => exact ⟨m / 128, _, rfl, by omega, by omega, ⟨(vint_step H1.out pre).trans HP.out⟩, HO1, HB1⟩
          case measure => have := H1.out; simp [intOf]; omega
        | false =>
          have H1 := Aside0.mk (of_decide_eq_false hq)
          go_wp2_with (first | ((with_reducible refine gate_builtin (b := .append) (xs := #[.tmp 21, .tmp 24]) rfl ?_); at_builtin; refine ob_append rfl (.tmp 21) (.tmp 24) rfl rfl rfl (HO.out.below (below_alloc (Below.refl _ _) _)) (C_lit1 _ _) ?hb ?hl ?_; (case hb => exact (by simp; omega)); (case hl => exact (by have := HL.out; omega)); intro v1 w1 ho hg hat; have HO1 := Aside0.mk ho; have HB1 := Aside0.mk (below_grown' (below1_alloc HB.out _ HS) (HO.out.below (below_alloc (Below.refl _ _) _)) (by simp; omega) hg); clear ho hg hat))
          go_ret2
          exact ⟨_, _, 0, rfl, HO1.out, HB1.out, fun _ => ⟨by rw [← HP.out, vint_last h0 (by have := H1.out; omega)], rfl⟩, fun h => absurd ⟨HN.out.1, HN.out.2⟩ h⟩
set_option maxHeartbeats 4000000 in
set_option maxRecDepth 100000 in
theorem ref01_Int (k : Nat) : ∀ (n : Int) (w : World), -9223372036854775808 ≤ n ∧ n ≤ 9223372036854775807 → n < k → Calls Try.prog 119 #[.int .i64 n] w (PostI w n) := by
  induction k with
  | zero =>
    intro n w hn hk
    have hq0 : decide (n < 0) = true := decide_eq_true (by omega)
    go_enter Try.func119, Try.ntmps119
    go_wp2
    go_ret2
    exact ⟨_, [], 14, rfl, OB_nil _ _, Below.refl _ _, fun h => absurd h.1 (by have := of_decide_eq_true hq0; omega), fun _ => ⟨rfl, rfl⟩⟩
  | succ k ih =>
    intro n w hn hk
    have IH := Aside0.mk ih
    clear ih
    cases hq0 : decide (n < 0) with
    | true =>
      go_enter Try.func119, Try.ntmps119
      go_wp2
      go_ret2
      exact ⟨_, [], 14, rfl, OB_nil _ _, Below.refl _ _, fun h => absurd h.1 (by have := of_decide_eq_true hq0; omega), fun _ => ⟨rfl, rfl⟩⟩
    | false =>
      cases hq1 : decide (2147483647 < n) with
      | true =>
        go_enter Try.func119, Try.ntmps119
        go_wp2
        go_ret2
        exact ⟨_, [], 14, rfl, OB_nil _ _, Below.refl _ _, fun h => absurd h.2 (by have := of_decide_eq_true hq1; omega), fun _ => ⟨rfl, rfl⟩⟩
      | false =>
        have hn0 : 0 ≤ n := by have := of_decide_eq_false hq0; omega
        have hn1 : n ≤ 2147483647 := by have := of_decide_eq_false hq1; omega
        have HN := Aside0.mk (And.intro hn0 hn1)
        cases hq : decide (n < 128) with
        | true =>
          have H1 := Aside0.mk (of_decide_eq_true hq)
          go_enter Try.func119, Try.ntmps119
          go_wp2_with (first | ((with_reducible refine gate_dst (N := 16) rfl ?_); refine ob_lit ([n % 256] : List Int) [.int .u8 (n % 256)] ?hg (N := 16) ?hd ?hr ?hi ?hm ?_; (case hd => rfl); (case hg => rfl); (case hr => first | (go_simp; done) | (go_simp; rfl)); (case hi => rfl); (case hm => simp); intro v2 w2 ho hb; have HO1 := Aside0.mk ho; have HB1 := Aside0.mk hb; clear ho hb))
          go_ret2
          exact ⟨_, _, 0, rfl, HO1.out, HB1.out, fun _ => ⟨vint_last hn0 (by have := H1.out; omega), rfl⟩, fun h => absurd ⟨HN.out.1, HN.out.2⟩ h⟩
        | false =>
          have H1 := Aside0.mk (of_decide_eq_false hq)
          have hw1 : 0 ≤ n / 128 := by omega
          go_enter Try.func119, Try.ntmps119
          go_wp2_with fail
          refine (IH.out (n / 128) _ (by omega) (by have := H1.out; omega)).mono ?_
          rintro e w1 ⟨v, b, er, rfl, ho, hb, hy, hno⟩
          have HY := Aside0.mk (hy (by unfold okInt; omega))
          have HO1 := Aside0.mk ho
          have HB1 := Aside0.mk hb
          have HS1 : w.heap.size ≤ w1.heap.size := hb.size
          clear hy hno ho hb
          obtain ⟨A, c, hv, hc, hr⟩ := HO1.out.reads
          have HR1 := Aside0.mk hr
          have HL := Aside0.mk (show b.length ≤ 2147483648 by have h2 := vint_len (n / 128).toNat; rw [← HY.out.1] at h2; omega)
          clear hr
          subst hv
          go_wp2_with (first | ((with_reducible refine gate_dst (N := 27) rfl ?_); refine ob_lit ([n % 128 + 128] : List Int) [.int .u8 (n % 128 + 128)] ?hg (N := 27) ?hd ?hr ?hi ?hm ?_; (case hd => rfl); (case hg => rfl); (case hr => first | (go_simp; done) | (go_simp; rfl)); (case hi => rfl); (case hm => simp); intro v2 w2 ho hb; have HO2 := Aside0.mk (OB.lower ho HS1); have HB2 := Aside0.mk (HB1.out.trans (hb.mono HS1)); have HR2 := Aside0.mk (Kd.C_below HR1.out hb); have HS2 : w.heap.size ≤ w2.heap.size := HB2.out.size; clear ho hb) | ((with_reducible refine gate_builtin (b := .append) (xs := #[.tmp 27, .tmp 28]) rfl ?_); at_builtin; refine ob_append rfl (.tmp 27) (.tmp 28) rfl rfl rfl HO2.out HR2.out ?hb ?hl ?_; (case hb => exact HS2); (case hl => exact (by have := HL.out; simp; omega)); intro v3 w3 ho hg hat; have HO3 := Aside0.mk ho; have HB3 := Aside0.mk (below_grown' HB2.out HO2.out HS2 hg); clear ho hg hat))
          go_ret2
          exact ⟨_, _, 0, rfl, HO3.out, HB3.out, fun _ => ⟨by rw [HY.out.1]; exact vint_cons (by have := H1.out; omega), rfl⟩, fun h => absurd ⟨HN.out.1, HN.out.2⟩ h⟩
/-- octet.Int at a right number. -/
structure PostI0 (w : World) (l : List Int) (e : Ending) (w' : World) : Prop where
  mk ::
  out : ∃ v, e = .returned (.tuple #[v, .int .i64 0]) ∧ OB w' w.heap.size v l ∧ Below w.heap.size w w'
theorem PostI.ok {w : World} {n : Int} {e : Ending} {w' : World} (h : PostI w n e w') (hn : okInt n) : PostI0 w (vint n.toNat) e w' := by
  obtain ⟨v, b, er, he, ho, hb, hy, _⟩ := h.out
  obtain ⟨rfl, rfl⟩ := hy hn
  exact ⟨v, he, ho, hb⟩
theorem octet_Int0 (n : Int) (w : World) (h : okInt n) : Calls Try.prog 67 #[.int .i64 n] w (PostI0 w (vint n.toNat)) := (octet_Int n w (by unfold okInt at h; omega)).mono fun _ _ hp => hp.ok h
theorem ref01_Int0 (n : Int) (w : World) (h : okInt n) : Calls Try.prog 119 #[.int .i64 n] w (PostI0 w (vint n.toNat)) := (ref01_Int 2147483648 n w (by unfold okInt at h; omega) (by unfold okInt at h; omega)).mono fun _ _ hp => hp.ok h

end Go.Proofs.Ytophfoenaekfjaa

namespace Go.Proofs.Ytophfoenaekfjaa
open Go.RowKit Go.Proofs.YtophfoenaekfjaaW.PrintWords Go.Proofs.YtophfoenaekfjaaW.PrintLast Go.Proofs.YtophfoenaekfjaaW.PrintMore Go.Proofs.Ytophfoenaekfjaa.PSnapEncodes
set_option linter.unusedVariables false
set_option linter.unusedSimpArgs false

/-- A call that hands back a row of bytes of its own. -/
structure PostBy (w : World) (l : List Int) (e : Ending) (w' : World) : Prop where
  mk ::
  out : ∃ v, e = .returned v ∧ OB w' w.heap.size v l ∧ Below w.heap.size w w'
theorem grown_trans {w w1 w2 : World} {row : Option Nat} (h : Below w.heap.size w w1) (hg : w1.grownBy w2 row) : w.grownBy w2 row :=
  ⟨hg.os.trans h.os, hg.tape.trans h.tape, hg.output.trans h.output, Nat.le_trans h.size hg.size, fun k hk hne => (hg.block k (Nat.lt_of_lt_of_le hk h.size) hne).trans (h.block k hk)⟩
theorem grown_below {w w1 w2 : World} {row : Option Nat} (hg : w.grownBy w1 row) (h : Below w1.heap.size w1 w2) : w.grownBy w2 row :=
  ⟨h.os.trans hg.os, h.tape.trans hg.tape, h.output.trans hg.output, Nat.le_trans hg.size h.size, fun k hk hne => (h.block k (Nat.lt_of_lt_of_le hk hg.size)).trans (hg.block k hk hne)⟩
theorem at_trans {w w1 : World} {u v : Value} (h : w.heap.size ≤ w1.heap.size) (hat : v.ownBlock = u.ownBlock ∨ ∃ b, v.ownBlock = some b ∧ w1.heap.size ≤ b) : v.ownBlock = u.ownBlock ∨ ∃ b, v.ownBlock = some b ∧ w.heap.size ≤ b :=
  hat.imp id (fun ⟨b, h1, h2⟩ => ⟨b, h1, Nat.le_trans h h2⟩)
/-- Two appends in line. -/
theorem at_chain {w w1 : World} {u v x : Value} (hs : w.heap.size ≤ w1.heap.size) (h1 : v.ownBlock = u.ownBlock ∨ ∃ b, v.ownBlock = some b ∧ w.heap.size ≤ b) (h2 : x.ownBlock = v.ownBlock ∨ ∃ b, x.ownBlock = some b ∧ w1.heap.size ≤ b) :
    x.ownBlock = u.ownBlock ∨ ∃ b, x.ownBlock = some b ∧ w.heap.size ≤ b := by
  rcases h2 with h2 | ⟨b, h2, h3⟩
  · rw [h2]; exact h1
  · exact .inr ⟨b, h2, Nat.le_trans hs h3⟩
theorem grown_chain {w w1 w2 : World} {u v : Value} (h1 : w.grownBy w1 u.ownBlock) (hat : v.ownBlock = u.ownBlock ∨ ∃ b, v.ownBlock = some b ∧ w.heap.size ≤ b) (h2 : w1.grownBy w2 v.ownBlock) : w.grownBy w2 u.ownBlock :=
  ⟨h2.os.trans h1.os, h2.tape.trans h1.tape, h2.output.trans h1.output, Nat.le_trans h1.size h2.size, fun k hk hne => by
    refine (h2.block k (Nat.lt_of_lt_of_le hk h1.size) ?_).trans (h1.block k hk hne)
    rcases hat with h | ⟨b, h, hb⟩
    · rw [h]; exact hne
    · rw [h]; intro e; injection e with e; omega⟩
/-- A call that appends to a row of bytes that it was handed. -/
structure PostAp (w : World) (base : Nat) (u : Value) (l : List Int) (e : Ending) (w' : World) : Prop where
  mk ::
  out : ∃ v, e = .returned v ∧ OB w' base v l ∧ w.grownBy w' u.ownBlock ∧ (v.ownBlock = u.ownBlock ∨ ∃ b, v.ownBlock = some b ∧ w.heap.size ≤ b)
set_option maxHeartbeats 4000000 in
set_option maxRecDepth 100000 in
theorem slices_Clone (A : Option Addr) (c : Nat) (l : List Int) (w : World) (hr : CB w A l) (hl : l.length ≤ 140737488355328) : Calls Try.prog 97 #[.slice A l.length c] w (PostBy w l) := by
  have HL := Aside0.mk hl
  have HR := Aside0.mk hr
  cases A with
  | none =>
    have hnil : l = [] := by
      rcases Nat.eq_zero_or_pos l.length with h0 | h0
      · exact List.eq_nil_of_length_eq_zero h0
      · obtain ⟨ad, e, _⟩ := hr.2.2 h0
        cases e
    subst hnil
    clear hr hl
    have he := fun w => Lib.run_eql_slice_nil_nil (P := Try.prog) w (t := 29) (e := 5) 0 c Try.underlying29
    go_enter Try.func97, Try.ntmps97
    go_wp2
    go_ret
    exact ⟨_, rfl, OB_nil _ _, Below.refl _ _⟩
  | some ad =>
    clear hr hl
    have he := fun w => Lib.run_eql_slice_nil (P := Try.prog) w 29 5 (some ad) l.length c 0 0 Try.underlying29
    go_enter Try.func97, Try.ntmps97
    go_wp2_with (first | ((with_reducible refine gate_dst (N := 5) rfl ?_); refine ob_lit ([] : List Int) [] ?hg (N := 5) ?hd ?hr ?hi ?hm ?_; (case hd => rfl); (case hg => rfl); (case hr => first | (go_simp; done) | (go_simp; rfl)); (case hi => rfl); (case hm => simp); intro v2 w2 ho hb; have HO2 := Aside0.mk ho; have HB2 := Aside0.mk hb; have HR2 := Aside0.mk (Kd.C_below HR.out hb); have HS2 : w.heap.size ≤ w2.heap.size := HB2.out.size; clear ho hb) | ((with_reducible refine gate_builtin (b := .append) (xs := #[.tmp 5, .tmp 6]) rfl ?_); at_builtin; refine ob_append rfl (.tmp 5) (.tmp 6) rfl rfl rfl HO2.out HR2.out ?hb ?hl ?_; (case hb => exact HS2); (case hl => exact (by have := HL.out; simp; omega)); intro v3 w3 ho hg hat; have HO3 := Aside0.mk ho; have HB3 := Aside0.mk (below_grown' HB2.out HO2.out HS2 hg); clear ho hg hat))
    go_ret
    exact ⟨_, rfl, HO3.out, HB3.out⟩
set_option maxHeartbeats 4000000 in
set_option maxRecDepth 100000 in
theorem ref01_Bytes (A : Option Addr) (c : Nat) (l : List Int) (w : World) (hr : CB w A l) (hl : l.length ≤ 2147483647) : Calls Try.prog 120 #[.slice A l.length c] w (PostBy w (vint l.length ++ l)) := by
  have HL := Aside0.mk hl
  have HR := Aside0.mk hr
  clear hr
  go_enter Try.func120, Try.ntmps120
  go_wp2_with fail
  refine (ref01_Int 2147483648 l.length _ (by omega) (by omega)).mono ?_
  rintro e w1 ⟨v, b, er, rfl, ho, hb, hy, hno⟩
  have HY := Aside0.mk (hy (by unfold okInt; omega))
  obtain ⟨A1, c1, rfl, hc1, hr1⟩ := ho.reads
  have HO1 := Aside0.mk ho
  have HB1 := Aside0.mk hb
  have HR1 := Aside0.mk (Kd.C_below HR.out hb)
  have HL1 := Aside0.mk (show b.length ≤ 5 by rw [HY.out.1, Int.toNat_natCast]; exact vint_len5 _ hl)
  have HS1 : w.heap.size ≤ w1.heap.size := hb.size
  clear hy hno ho hb hr1
  go_wp2_with (first | ((with_reducible refine gate_builtin (b := .append) (xs := #[.tmp 11, .tmp 12]) rfl ?_); at_builtin; refine ob_append rfl (.tmp 11) (.tmp 12) rfl rfl rfl HO1.out HR1.out ?hb ?hl ?_; (case hb => exact HS1); (case hl => exact (by have := HL.out; have := HL1.out; omega)); intro v2 w2 ho hg hat; have HO2 := Aside0.mk ho; have HB2 := Aside0.mk (below_grown' HB1.out HO1.out HS1 hg); clear ho hg hat))
  go_ret
  exact ⟨_, rfl, by have := HO2.out; rw [HY.out.1, Int.toNat_natCast] at this; exact this, HB2.out⟩
set_option maxHeartbeats 4000000 in
set_option maxRecDepth 100000 in
theorem ref10_text (base : Nat) (u : Value) (l0 : List Int) (A : Option Addr) (c : Nat) (l : List Int) (w : World) (hB : base ≤ w.heap.size) (ho : OB w base u l0) (hr : CB w A l) (hl : l.length ≤ 2147483647) (hl0 : l0.length ≤ 137438953472) :
    Calls Try.prog 71 #[u, .slice A l.length c] w (PostAp w base u (l0 ++ (vint l.length ++ l))) := by
  have HL := Aside0.mk hl
  have HL0 := Aside0.mk hl0
  have HO := Aside0.mk ho
  have HR := Aside0.mk hr
  have HL1 := Aside0.mk (vint_len5 l.length hl)
  clear hr ho
  go_enter Try.func71, Try.ntmps71
  go_wp2_with fail
  refine (ref01_Bytes _ _ _ _ HR.out hl).mono ?_
  rintro e w1 ⟨v, rfl, ho, hb⟩
  obtain ⟨b1, hbs⟩ : ∃ bs : List Int, vint l.length ++ l = bs := ⟨_, rfl⟩
  rw [hbs] at ho
  have HE1 := Aside0.mk hbs
  clear hbs
  obtain ⟨A1, c1, rfl, hc, hr1⟩ := ho.reads
  have HOwn1 := Aside0.mk ho
  have HR1 := Aside0.mk hr1
  have Hb1 := Aside0.mk hb
  clear ho hr1 hb hc
  have HO1 := Aside0.mk (HO.out.below Hb1.out)
  have HS1 : base ≤ w1.heap.size := Nat.le_trans hB Hb1.out.size
  have HL2 := Aside0.mk (show b1.length ≤ 5 + l.length by rw [← HE1.out, List.length_append]; have := HL1.out; omega)
  clear HO
  go_wp2_with (first | ((with_reducible refine gate_builtin (b := .append) (xs := #[.tmp 5, .tmp 7]) rfl ?_); at_builtin; refine ob_append rfl (.tmp 5) (.tmp 7) rfl rfl rfl HO1.out HR1.out ?hb ?hl ?_; (case hb => exact HS1); (case hl => exact (by have := HL.out; have := HL0.out; have := HL2.out; omega)); intro v2 w2 ho hg hat; have HO2 := Aside0.mk ho; have HG := Aside0.mk (grown_trans Hb1.out hg); have HT := Aside0.mk (at_trans Hb1.out.size hat); clear ho hg hat))
  go_ret
  exact ⟨_, rfl, by rw [HE1.out]; exact HO2.out, HG.out, HT.out⟩

end Go.Proofs.Ytophfoenaekfjaa

namespace Go.Proofs.Ytophfoenaekfjaa
open Go.RowKit Go.Proofs.YtophfoenaekfjaaW.PrintWords Go.Proofs.YtophfoenaekfjaaW.PrintLast Go.Proofs.YtophfoenaekfjaaW.PrintMore Go.Proofs.Ytophfoenaekfjaa.PSnapEncodes
set_option linter.unusedVariables false
set_option linter.unusedSimpArgs false

def nat (xs : List Int) : List Int := xs.flatMap fun n => vint n.toNat
theorem nat_len (xs : List Int) (h : ∀ x ∈ xs, okInt x) : (nat xs).length ≤ 5 * xs.length := by
  induction xs with
  | nil => simp [nat]
  | cons x l ih =>
    have h1 := ih (fun y hy => h y (List.mem_cons_of_mem _ hy))
    have h2 := vint_len5 x.toNat (by have := h x List.mem_cons_self; unfold okInt at this; omega)
    simp only [nat, List.flatMap_cons, List.length_append, List.length_cons] at h1 ⊢
    omega
theorem rd_mem {xs : List Int} {x : Int} (h0 : 0 ≤ x) (h1 : x < xs.length) : rd xs x ∈ xs := by
  have hl : x.toNat < xs.length := by omega
  unfold rd
  rw [List.getD_eq_getElem?_getD, List.getElem?_eq_getElem hl]
  exact List.getElem_mem hl
theorem take_rd {xs : List Int} {x : Int} (h0 : 0 ≤ x) (h1 : x < xs.length) : xs.take (x + 1).toNat = xs.take x.toNat ++ [rd xs x] := by
  have hl : x.toNat < xs.length := by omega
  have e : (x + 1).toNat = x.toNat + 1 := by omega
  rw [e, List.take_add_one, List.getElem?_eq_getElem hl]
  unfold rd
  rw [List.getD_eq_getElem?_getD, List.getElem?_eq_getElem hl]
  rfl
theorem nat_take {xs : List Int} {x : Int} (h0 : 0 ≤ x) (h1 : x < xs.length) : nat (xs.take (x + 1).toNat) = nat (xs.take x.toNat) ++ vint (rd xs x).toNat := by
  rw [take_rd h0 h1]; simp [nat]
theorem nat_all {xs : List Int} {x : Int} (h1 : (xs.length : Int) ≤ x) : nat (xs.take x.toNat) = nat xs := by
  rw [List.take_of_length_le (by omega)]
theorem nat_take_len {xs : List Int} {n : Nat} (h : ∀ x ∈ xs, okInt x) : (nat (xs.take n)).length ≤ 5 * xs.length := by
  have := nat_len (xs.take n) (fun x hx => h x (List.mem_of_mem_take hx))
  have h2 : (xs.take n).length ≤ xs.length := List.length_take_le' ..
  omega
set_option maxHeartbeats 4000000 in
set_option maxRecDepth 100000 in
theorem ref10_nums (base : Nat) (u : Value) (l0 : List Int) (A : Option Addr) (c : Nat) (l : List Int) (w : World) (hB : base ≤ w.heap.size) (ho : OB w base u l0) (hr : (Kd.int .i64).C w A l.length l) (hl : l.length ≤ 1000) (hx : ∀ x ∈ l, okInt x) (hu : ∀ k, u.ownBlock = some k → ∀ ad, A = some ad → ad.block ≠ k) (hl0 : l0.length ≤ 137438953472) :
    Calls Try.prog 70 #[u, .slice A l.length c] w (PostAp w base u (l0 ++ nat l)) := by
  have HL := Aside0.mk hl
  have HL0 := Aside0.mk hl0
  have HX := Aside0.mk hx
  have HR := Aside0.mk hr
  have HU := Aside0.mk hu
  have HO := Aside0.mk ho
  clear hx hr hu ho
  go_enter Try.func70, Try.ntmps70
  go_wp2
  go_loopw [0, 11] (fun v0 v11 wr => ∃ x : Int, v11 = .int .i64 x ∧ 0 ≤ x ∧ x ≤ l.length ∧ Aside0 (OB wr base v0 (l0 ++ nat (l.take x.toNat))) ∧ Aside0 (w.grownBy wr u.ownBlock) ∧ Aside0 (v0.ownBlock = u.ownBlock ∨ ∃ b, v0.ownBlock = some b ∧ w.heap.size ≤ b)) (fun _ v11 _ => l.length - (intOf v11).toNat)
  case atStart => exact ⟨0, rfl, by omega, by omega, ⟨by simpa [nat] using HO.out⟩, ⟨World.grownBy.refl w _⟩, ⟨.inl rfl⟩⟩
  case round =>
    obtain ⟨x, rfl, h0, hi, HO, HG, HT⟩ := hrel
    have HS : base ≤ wr.heap.size := Nat.le_trans hB HG.out.size
    by_cases hlt : x < l.length
    · obtain ⟨ad, e1, hx0⟩ := Kd.at_int HR.out x h0 hlt
      subst e1
      have hne : some ad.block ≠ u.ownBlock := fun e => HU.out ad.block e.symm ad rfl rfl
      replace hx0 := HG.out.cell hx0 (by rw [add_block]; exact hne)
      have HI := Aside0.mk (HX.out _ (rd_mem h0 hlt))
      go_wp2_with fail
      refine (ref01_Int0 (rd l x) _ HI.out).mono ?_
      rintro e w1 ⟨v, rfl, ho, hb⟩
      obtain ⟨b1, hbs⟩ : ∃ bs : List Int, vint (rd l x).toNat = bs := ⟨_, rfl⟩
      rw [hbs] at ho
      have HE1 := Aside0.mk hbs
      clear hbs
      obtain ⟨A1, c1, rfl, hc, hr1⟩ := ho.reads
      have HOwn1 := Aside0.mk ho
      have HR1 := Aside0.mk hr1
      have Hb1 := Aside0.mk hb
      clear ho hr1 hb hc
      have HO1 := Aside0.mk (HO.out.below Hb1.out)
      have HS1 : base ≤ w1.heap.size := Nat.le_trans HS Hb1.out.size
      have HG1 := Aside0.mk (grown_below HG.out Hb1.out)
      have HT1 := Aside0.mk HT.out
      have HL2 := Aside0.mk (show b1.length ≤ 5 by rw [← HE1.out]; exact vint_len5 _ (by have := HI.out; unfold okInt at this; omega))
      have HL3 := Aside0.mk (nat_take_len (n := x.toNat) HX.out)
      clear HO HG HT
      go_wp2_with (first | ((with_reducible refine gate_builtin (b := .append) (xs := #[.tmp 20, .tmp 21]) rfl ?_); at_builtin; refine ob_append rfl (.tmp 20) (.tmp 21) rfl rfl rfl HO1.out HR1.out ?hb ?hl ?_; (case hb => exact HS1); (case hl => exact (by have := HL.out; have := HL0.out; have := HL2.out; have := HL3.out; rw [List.length_append]; omega)); intro v2 w2 ho hg hat; have HO2 := Aside0.mk ho; have HG2 := Aside0.mk (grown_chain HG1.out HT1.out hg); have HT2 := Aside0.mk (at_chain (Nat.le_of_lt_succ (Nat.lt_succ_of_le HG1.out.size)) HT1.out hat); clear ho hg hat))
      go_roundw
      case rel => exact ⟨x + 1, by go_num, by omega, by omega, ⟨by have := HO2.out; rw [nat_take h0 hlt, HE1.out, ← List.append_assoc]; exact this⟩, HG2, HT2⟩
      case measure => simp [intOf]; omega
    · go_wp2
      go_ret
      exact ⟨_, rfl, by have := HO.out; rw [nat_all hlt] at this; exact this, HG.out, HT.out⟩

theorem C_lits {d : Kd Int} (enc : Int → Value) (hd : ∀ w x, d.K w x [enc x]) (hs : d.sz = 1) (W : World) (xs : List Int) (e : TypeId) (hm : xs.length ≤ 9223372036854775807) : d.C (W.alloc (.cells (xs.map enc).toArray e)) (some ⟨W.heap.size, 0, none⟩) xs.length xs := by
  refine ⟨rfl, hm, fun _ => ⟨_, rfl, fun j p hj => ⟨[enc p], by simp [hs], hd _ _, fun i u hu => ?_⟩⟩⟩
  obtain ⟨hil, hiu⟩ := List.getElem?_eq_some_iff.1 hu
  have hi0 : i = 0 := by simp at hil; omega
  subst hi0
  obtain ⟨hjl, hjp⟩ := List.getElem?_eq_some_iff.1 hj
  rw [hs, Nat.mul_one, Nat.add_zero, add_at, Nat.zero_add, ← hiu]
  refine (blk_cell (heap_alloc_new W _) j).trans ?_
  simp [hj]
theorem C_litI (W : World) (xs : List Int) (hm : xs.length ≤ 1000) : (Kd.int .i64).C (W.alloc (.cells (xs.map (Value.int .i64)).toArray 3)) (some ⟨W.heap.size, 0, none⟩) xs.length xs :=
  C_lits (Value.int .i64) (fun _ _ => rfl) rfl W xs 3 (by omega)

end Go.Proofs.Ytophfoenaekfjaa

namespace Go.Proofs.Ytophfoenaekfjaa
open Go.RowKit Go.Proofs.YtophfoenaekfjaaW.PrintWords Go.Proofs.YtophfoenaekfjaaW.PrintLast Go.Proofs.YtophfoenaekfjaaW.PrintMore Go.Proofs.Ytophfoenaekfjaa.PSnapEncodes
set_option linter.unusedVariables false
set_option linter.unusedSimpArgs false

def wfB (l : List Int) : Prop := ∀ c ∈ l, 0 ≤ c ∧ c ≤ 255
theorem wf_rd {l : List Int} {x : Int} (h : wfB l) (h0 : 0 ≤ x) (h1 : x < l.length) : 0 ≤ rd l x ∧ rd l x ≤ 255 := h _ (rd_mem h0 h1)
/-- A number read: from what is left, behind i bytes that told n. -/
def gi : List Int → Nat → Int → Option (Int × Nat)
  | [], _, _ => none
  | c :: t, i, n => if 5 ≤ i then none else if c < 128 then (if 2147483647 < n + c % 128 * 128 ^ i ∨ (c = 0 ∧ 0 < i) then none else some (n + c % 128 * 128 ^ i, i + 1)) else gi t (i + 1) (n + c % 128 * 128 ^ i)
def gres (a : Int) : Option (Int × Nat) → Int × Int × Int
  | none => (0, 0, 11)
  | some p => (p.1, a + p.2, 0)
/-- The number at a place: it, the place behind it, the error. -/
def getI (l : List Int) (at_ : Int) : Int × Int × Int :=
  if at_ < 0 ∨ (l.length : Int) < at_ then (0, 0, 11) else gres at_ (gi (l.drop at_.toNat) 0 0)
theorem getI_in {l : List Int} {a : Int} (h0 : 0 ≤ a) (h1 : a ≤ l.length) : getI l a = gres a (gi (l.drop a.toNat) 0 0) := by unfold getI; rw [if_neg (by omega)]
theorem drop_rd {l : List Int} {x : Int} (h0 : 0 ≤ x) (h1 : x < l.length) : l.drop x.toNat = rd l x :: l.drop (x + 1).toNat := by
  have hl : x.toNat < l.length := by omega
  have e : (x + 1).toNat = x.toNat + 1 := by omega
  rw [e, List.drop_eq_getElem_cons hl]
  unfold rd
  rw [List.getD_eq_getElem?_getD, List.getElem?_eq_getElem hl]
  rfl
theorem gi_nil {i : Nat} {n : Int} (l : List Int) (x : Int) (h : (l.length : Int) ≤ x) : gi (l.drop x.toNat) i n = none := by
  rw [List.drop_eq_nil_of_le (by omega)]
  rfl
theorem gi_5' {i : Nat} {n : Int} (h : 5 ≤ i) : ∀ l, gi l i n = none
  | [] => rfl
  | c :: t => by simp [gi, h]
theorem gi_take' : ∀ (k : Nat) (l : List Int) (i : Nat) (n : Int), 5 ≤ i + k → gi (l.take k) i n = gi l i n
  | 0, [], i, n, h => rfl
  | 0, c :: t, i, n, h => by simp [gi, show 5 ≤ i by omega]
  | k + 1, [], i, n, h => rfl
  | k + 1, c :: t, i, n, h => by
    simp only [List.take_succ_cons, gi]
    rw [gi_take' k t (i + 1) _ (by omega)]
theorem gi_take (l : List Int) : gi (l.take (min 5 l.length)) 0 0 = gi l 0 0 := by
  by_cases h : 5 ≤ l.length
  · rw [Nat.min_eq_left h]; exact gi_take' 5 l 0 0 (by omega)
  · rw [Nat.min_eq_right (by omega), List.take_of_length_le (by omega)]
theorem and127 (x : Int) (h0 : 0 ≤ x) (h1 : x ≤ 255) : Go.bits .and .u8 x 127 = x % 128 := by
  have h : ∀ y : Fin 256, Go.bits .and .u8 (y.val : Int) 127 = (y.val : Int) % 128 := by decide +kernel
  have := h ⟨x.toNat, by omega⟩
  simp only [Int.toNat_of_nonneg h0] at this
  exact this
theorem or_add (n m : Int) (i : Nat) (h0 : 0 ≤ n) (h1 : n < 2 ^ i) (hm : 0 ≤ m) (hm2 : m * 2 ^ i < 2 ^ 63) (hi : i ≤ 62) : Go.bits .or .i64 n (m * 2 ^ i) = n + m * 2 ^ i := by
  have hc : Go.bits .or .i64 n (m * 2 ^ i) = Go.bits .or .i64 (m * 2 ^ i) n := by
    simp only [Go.bits]
    congr 2
    exact Nat.or_comm _ _
  rw [hc, bits_join .i64 63 (by decide) (fun x h0 h1 => by rw [IntKind.wrap_i64]; omega) i (m * 2 ^ i) n (Int.mul_nonneg hm (Int.pow_nonneg (by decide))) (Int.mul_emod_left _ _) hm2 h0 h1 (by
    refine Int.lt_of_lt_of_le h1 ?_
    exact_mod_cast Nat.pow_le_pow_right (by decide) (by omega)), Int.add_comm]
theorem or_step (n b x : Int) (hx0 : 0 ≤ x) (hx : x ≤ 4) (h0 : 0 ≤ n) (h1 : n < 2 ^ (7 * x.toNat)) (hb : 0 ≤ b) (hb2 : b ≤ 255) :
    Go.bits .or .i64 n (wrap64 (wrap64 (Go.bits .and .u8 b 127) * 2 ^ (7 * x).toNat)) = n + b % 128 * 2 ^ (7 * x.toNat) := by
  have e : (7 * x).toNat = 7 * x.toNat := by omega
  have h4 : x.toNat ≤ 4 := by omega
  rw [and127 b hb hb2, e]
  generalize x.toNat = y at *
  have hp : (2 : Int) ^ (7 * y) ≤ 2 ^ 28 := by exact_mod_cast Nat.pow_le_pow_right (n := 2) (by decide) (show 7 * y ≤ 28 by omega)
  have hpos : (0 : Int) ≤ 2 ^ (7 * y) := Int.pow_nonneg (by decide)
  have w1 : wrap64 (b % 128) = b % 128 := by unfold wrap64; omega
  have hm : b % 128 * 2 ^ (7 * y) ≤ 127 * 2 ^ 28 := Int.mul_le_mul (by omega) hp hpos (by decide)
  have hm0 : 0 ≤ b % 128 * 2 ^ (7 * y) := Int.mul_nonneg (by omega) hpos
  have w2 : wrap64 (b % 128 * 2 ^ (7 * y)) = b % 128 * 2 ^ (7 * y) := by generalize b % 128 * 2 ^ (7 * y) = q at *; unfold wrap64; omega
  rw [w1, w2]
  exact or_add n (b % 128) _ h0 h1 (by omega) (by omega) (by omega)
theorem step_lt (n b x : Int) (hx0 : 0 ≤ x) (h1 : n < 2 ^ (7 * x.toNat)) (hb : 0 ≤ b) : n + b % 128 * 2 ^ (7 * x.toNat) < 2 ^ (7 * (x + 1).toNat) := by
  have e : 7 * (x + 1).toNat = 7 * x.toNat + 7 := by omega
  rw [e, Int.pow_add]
  have : b % 128 * 2 ^ (7 * x.toNat) ≤ 127 * 2 ^ (7 * x.toNat) := Int.mul_le_mul_of_nonneg_right (by omega) (Int.pow_nonneg (by decide))
  omega
theorem gi_step {l : List Int} {x n : Int} (h0 : 0 ≤ x) (h1 : x < l.length) (hx : x ≤ 4) : gi (l.drop x.toNat) x.toNat n = if rd l x < 128 then (if 2147483647 < n + rd l x % 128 * 2 ^ (7 * x.toNat) ∨ (rd l x = 0 ∧ 0 < x) then none else some (n + rd l x % 128 * 2 ^ (7 * x.toNat), x.toNat + 1)) else gi (l.drop (x + 1).toNat) (x + 1).toNat (n + rd l x % 128 * 2 ^ (7 * x.toNat)) := by
  have e : (128 : Int) ^ x.toNat = 2 ^ (7 * x.toNat) := by rw [show (128 : Int) = 2 ^ 7 by decide, ← Int.pow_mul]
  have e2 : (x + 1).toNat = x.toNat + 1 := by omega
  rw [drop_rd h0 h1]
  simp only [gi]
  rw [if_neg (by omega), e, e2]
  have e3 : (0 < x.toNat) = (0 < x) := by simp only [eq_iff_iff]; omega
  simp only [e3]
theorem gi_step' {l : List Int} {a y n : Int} (ha : 0 ≤ a) (h0 : a ≤ y) (h1 : y < l.length) (hx : y - a < 5) : gi (l.drop y.toNat) (y - a).toNat n = if rd l y < 128 then (if 2147483647 < n + rd l y % 128 * 2 ^ (7 * (y - a).toNat) ∨ (rd l y = 0 ∧ 0 < (y - a).toNat) then none else some (n + rd l y % 128 * 2 ^ (7 * (y - a).toNat), (y - a).toNat + 1)) else gi (l.drop (y + 1).toNat) (y + 1 - a).toNat (n + rd l y % 128 * 2 ^ (7 * (y - a).toNat)) := by
  have e : (128 : Int) ^ (y - a).toNat = 2 ^ (7 * (y - a).toNat) := by rw [show (128 : Int) = 2 ^ 7 by decide, ← Int.pow_mul]
  have e2 : (y + 1 - a).toNat = (y - a).toNat + 1 := by omega
  rw [drop_rd (by omega) h1]
  simp only [gi]
  rw [if_neg (by omega), e, e2]
section
variable {P : Program}
theorem C_sub {α : Type} {d : Kd α} {w : World} {A : Option Addr} {l : List α} {c : Nat} (h : d.C w A l.length l) (hc : l.length ≤ c) (a k : Nat) (hk : a + k ≤ l.length) :
    d.C w (if c = a then A else A.map (·.add (a * d.sz))) ((l.drop a).take k).length ((l.drop a).take k) := by
  have hlen : ((l.drop a).take k).length = k := by simp; omega
  refine ⟨rfl, by have := h.2.1; omega, fun hp => ?_⟩
  obtain ⟨ad, rfl, hcell⟩ := h.2.2 (by omega)
  rw [if_neg (by omega)]
  refine ⟨ad.add (a * d.sz), rfl, fun j p hj => ?_⟩
  have hj2 : l[a + j]? = some p := by
    rw [List.getElem?_take] at hj
    split at hj
    · rw [List.getElem?_drop] at hj; exact hj
    · cases hj
  obtain ⟨c1, h1, h2, h3⟩ := hcell (a + j) p hj2
  refine ⟨c1, h1, h2, fun i u hu => ?_⟩
  have ha : (ad.add (a * d.sz)).add (j * d.sz + i) = ad.add ((a + j) * d.sz + i) := by
    have : (a + j) * d.sz + i = a * d.sz + (j * d.sz + i) := by rw [Nat.add_mul]; omega
    rw [this]
    generalize a * d.sz = x
    generalize j * d.sz + i = y
    unfold Addr.add
    by_cases h1 : x = 0 <;> by_cases h2 : y = 0 <;> simp [h1, h2, Nat.add_assoc]
  rw [ha]
  exact h3 i u hu
/-- 'xs[a:m]' without a case on the capacity. -/
theorem cut_lh {α : Type} (d : Kd α) (t e : TypeId) (kl kh : IntKind) {z : Option Value} {b : Nat} (ht : P.underlying t = some (.slice e)) (hif : (P.info? e).map (fun i => (i.zero, i.size, i.bytes)) = some (z, d.sz, b)) (A : Option Addr) (l : List α) (c : Nat) (a m : Int) (h0 : 0 ≤ a) (h1 : a ≤ m) (h2 : m ≤ l.length) (hc : l.length ≤ c) :
    ∃ A' c', (∀ W : World, (Instr.slice t (.slice A l.length c) (some (.int kl a)) (some (.int kh m)) none).run P W = .ok (.slice A' ((l.drop a.toNat).take (m - a).toNat).length c') W) ∧ ((l.drop a.toNat).take (m - a).toNat).length ≤ c' ∧
      ∀ w : World, d.C w A l.length l → d.C w A' ((l.drop a.toNat).take (m - a).toNat).length ((l.drop a.toNat).take (m - a).toNat) := by
  have hlen : ((l.drop a.toNat).take (m - a).toNat).length = m.toNat - a.toNat := by simp; omega
  refine ⟨if c = a.toNat then A else A.map (·.add (a.toNat * d.sz)), c - a.toNat, fun W => ?_, by omega, fun w h => C_sub h hc _ _ (by omega)⟩
  obtain ⟨i, hi, hz⟩ := Option.map_eq_some_iff.1 hif
  have hsz : i.size = d.sz := by injection hz with _ h; injection h
  have hel : P.elem t = e := by simp [Program.elem, ht]
  have hu : P.underlying t = some (.slice (P.elem t)) := by rw [hel]; exact ht
  rw [run_slice_lh W t A l.length c hu kl kh a m h0 h1 (by omega), hel, hlen]
  simp [sizeOf, typeInfo, hi, hsz, sliced, Result.andThen]
end
set_option maxHeartbeats 4000000 in
set_option maxRecDepth 100000 in
theorem octet_GetInt (A : Option Addr) (c : Nat) (l : List Int) (a : Int) (w : World) (hr : CB w A l) (hc : l.length ≤ c) (hw : wfB l) (ha : -4611686018427387904 ≤ a ∧ a ≤ 4611686018427387904) (hL : l.length ≤ 4611686018427387904) :
    Calls Try.prog 112 #[.slice A l.length c, .int .i64 a] w fun e w' => e = .returned (.tuple #[.int .i64 (getI l a).1, .int .i64 (getI l a).2.1, .int .i64 (getI l a).2.2]) ∧ Drawn0 w w' := by
  have HR := Aside0.mk hr
  have HW := Aside0.mk hw
  have HC := Aside0.mk hc
  clear hr hw
  cases hq0 : decide (a < 0) with
  | true =>
    have HE := Aside0.mk (show getI l a = (0, 0, 11) by unfold getI; rw [if_pos (.inl (of_decide_eq_true hq0))])
    go_enter Try.func112, Try.ntmps112
    go_wp2
    go_ret3
    exact ⟨by rw [HE.out]; rfl, Drawn0.refl _⟩
  | false =>
    cases hq1 : decide ((l.length : Int) < a) with
    | true =>
      have HE := Aside0.mk (show getI l a = (0, 0, 11) by unfold getI; rw [if_pos (.inr (of_decide_eq_true hq1))])
      go_enter Try.func112, Try.ntmps112
      go_wp2
      go_ret3
      exact ⟨by rw [HE.out]; rfl, Drawn0.refl _⟩
    | false =>
      have ha0 : 0 ≤ a := by have := of_decide_eq_false hq0; omega
      have ha1 : a ≤ l.length := by have := of_decide_eq_false hq1; omega
      obtain ⟨A1, c1, hcut, hc1, hC1⟩ := cut_lh (Kd.int .u8) 29 5 .i64 .i64 Try.underlying29 info5 A l c a (min (l.length : Int) (a + 5)) ha0 (by omega) (by omega) HC.out
      have hr1 := hC1 w HR.out
      have hw1 : wfB ((l.drop a.toNat).take (min (l.length : Int) (a + 5) - a).toNat) := fun c hc => HW.out c (List.mem_of_mem_drop (List.mem_of_mem_take hc))
      have hG := getI_in ha0 ha1
      have hk5 : (min (l.length : Int) (a + 5) - a).toNat = min 5 (l.drop a.toNat).length := by simp; omega
      rw [hk5] at hcut hc1 hr1 hw1
      rw [← gi_take] at hG
      have ht5 : ((l.drop a.toNat).take (min 5 (l.drop a.toNat).length)).length ≤ 5 := by simp; omega
      obtain ⟨t, ht⟩ : ∃ t, (l.drop a.toNat).take (min 5 (l.drop a.toNat).length) = t := ⟨_, rfl⟩
      rw [ht] at hcut hc1 hr1 hw1 hG ht5
      have HR1 := Aside0.mk hr1
      have HW1 := Aside0.mk hw1
      have HG := Aside0.mk hG
      clear hr1 hw1 hG hC1 ht hk5 HR HW
      go_enter Try.func112, Try.ntmps112
      go_wp2_with fail
      go_loopw [7, 27] (fun v7 v27 wr => ∃ n x : Int, v7 = .int .i64 n ∧ v27 = .int .i64 x ∧ 0 ≤ x ∧ x ≤ t.length ∧ 0 ≤ n ∧ n < 34359738368 ∧ Aside0 (Drawn0 w wr) ∧ Aside0 (gi (t.drop x.toNat) x.toNat n = gi t 0 0 ∧ n < 2 ^ (7 * x.toNat))) (fun _ v27 _ => t.length - (intOf v27).toNat)
      case atStart => exact ⟨0, 0, rfl, rfl, by omega, by omega, by omega, by omega, ⟨Drawn0.refl _⟩, ⟨rfl, by simp⟩⟩
      case round =>
        obtain ⟨n, x, rfl, rfl, h0, h1, h2, h3, HB, HA⟩ := hrel
        by_cases hlt : x < t.length
        · obtain ⟨ad, e1, hx⟩ := Kd.at_int (Kd.C_below HR1.out HB.out.below) x h0 hlt
          subst e1
          obtain ⟨hc0, hc255⟩ := wf_rd HW1.out h0 hlt
          obtain ⟨b, hb⟩ : ∃ b, rd t x = b := ⟨_, rfl⟩
          rw [hb] at hx hc0 hc255
          have HD := Aside0.mk hb
          clear hb
          have hx5 : x = 0 ∨ x = 1 ∨ x = 2 ∨ x = 3 ∨ x = 4 := by omega
          have hx4 : x ≤ 4 := by omega
          have HS := Aside0.mk (gi_step (n := n) h0 hlt hx4)
          have HO := Aside0.mk (or_step n b x h0 hx4 h2 HA.out.2 hc0 hc255)
          have HN := Aside0.mk (step_lt n b x h0 HA.out.2 hc0)
          clear hx5
          obtain ⟨q, hq⟩ : ∃ q, Go.bits .or .i64 n (wrap64 (wrap64 (Go.bits .and .u8 b 127) * 2 ^ (7 * x).toNat)) = q := ⟨_, rfl⟩
          have HQ := Aside0.mk hq
          have h4 : 0 ≤ q := by rw [← hq, HO.out]; exact Int.add_nonneg h2 (Int.mul_nonneg (by omega) (Int.pow_nonneg (by decide)))
          have h5 : q < 34359738368 := by
            have := HN.out
            rw [← HO.out, hq] at this
            have h6 : (2 : Int) ^ (7 * (x + 1).toNat) ≤ 2 ^ 35 := by exact_mod_cast Nat.pow_le_pow_right (n := 2) (by decide) (show 7 * (x + 1).toNat ≤ 35 by omega)
            omega
          cases hq2 : decide (b < 128) with
          | true =>
            cases hq3 : decide (2147483647 < q) with
            | true =>
              have HE := Aside0.mk (show getI l a = (0, 0, 11) by rw [HG.out, ← HA.out.1, HS.out, HD.out, if_pos (of_decide_eq_true hq2), if_pos (by rw [← HO.out, hq]; exact .inl (of_decide_eq_true hq3))]; rfl)
              go_wp2_with fail
              go_ret3
              exact ⟨by rw [HE.out]; rfl, HB.out⟩
            | false =>
              cases hq4 : b == 0 with
              | false =>
                have HE := Aside0.mk (show getI l a = (q, a + x + 1, 0) by rw [HG.out, ← HA.out.1, HS.out, HD.out, if_pos (of_decide_eq_true hq2), if_neg (by rw [← HO.out, hq]; exact (fun h => h.elim (of_decide_eq_false hq3) (fun h => by simp [h.1] at hq4)))]; rw [← HO.out, hq]; show (q, a + ((x.toNat + 1 : Nat) : Int), (0 : Int)) = _; congr 2; omega)
                go_wp2_with fail
                go_ret3
                exact ⟨by rw [HE.out]; rfl, HB.out⟩
              | true =>
                cases hq5 : decide (0 < x) with
                | true =>
                  have HE := Aside0.mk (show getI l a = (0, 0, 11) by rw [HG.out, ← HA.out.1, HS.out, HD.out, if_pos (of_decide_eq_true hq2), if_pos (by rw [← HO.out, hq]; exact .inr ⟨eq_of_beq hq4, of_decide_eq_true hq5⟩)]; rfl)
                  go_wp2_with fail
                  go_ret3
                  exact ⟨by rw [HE.out]; rfl, HB.out⟩
                | false =>
                  have HE := Aside0.mk (show getI l a = (q, a + x + 1, 0) by rw [HG.out, ← HA.out.1, HS.out, HD.out, if_pos (of_decide_eq_true hq2), if_neg (by rw [← HO.out, hq]; exact (fun h => h.elim (of_decide_eq_false hq3) (fun h => of_decide_eq_false hq5 h.2)))]; rw [← HO.out, hq]; show (q, a + ((x.toNat + 1 : Nat) : Int), (0 : Int)) = _; congr 2; omega)
                  go_wp2_with fail
                  go_ret3
                  exact ⟨by rw [HE.out]; rfl, HB.out⟩
          | false =>
            go_wp2_with fail
            go_roundw
            case rel =>
              refine ⟨q, x + 1, rfl, rfl, by omega, by omega, h4, h5, HB, ⟨?_, ?_⟩⟩
              · rw [← HA.out.1, HS.out, HD.out, if_neg (of_decide_eq_false hq2), ← HO.out, hq]
              · rw [← hq, HO.out]; exact HN.out
            case measure => simp only [intOf]; omega
        · have HE := Aside0.mk (show getI l a = (0, 0, 11) by rw [HG.out, ← HA.out.1, gi_nil _ _ (by omega)]; rfl)
          go_wp2_with fail
          go_ret3
          exact ⟨by rw [HE.out]; rfl, HB.out⟩

end Go.Proofs.Ytophfoenaekfjaa

namespace Go.Proofs.Ytophfoenaekfjaa
open Go.RowKit Go.Proofs.YtophfoenaekfjaaW.PrintWords Go.Proofs.YtophfoenaekfjaaW.PrintLast Go.Proofs.YtophfoenaekfjaaW.PrintMore Go.Proofs.Ytophfoenaekfjaa.PSnapEncodes
set_option linter.unusedVariables false
set_option linter.unusedSimpArgs false

theorem vint_le (k : Nat) : ∀ n : Nat, n < 128 ^ (k + 1) → (vint n).length ≤ k + 1 := by
  induction k with
  | zero => intro n h; rw [vint_small (by simpa using h)]; simp
  | succ k ih =>
    intro n h
    by_cases hs : n < 128
    · rw [vint_small hs]; simp
    · rw [vint_big hs, List.length_cons]
      have := ih (n / 128) (by rw [Nat.div_lt_iff_lt_mul (by decide)]; rw [Nat.pow_succ] at h; exact h)
      omega
theorem vint_ge (k : Nat) : ∀ n : Nat, 128 ^ k ≤ n → k + 1 ≤ (vint n).length := by
  induction k with
  | zero =>
    intro n h
    by_cases hs : n < 128
    · rw [vint_small hs]; simp
    · rw [vint_big hs, List.length_cons]; omega
  | succ k ih =>
    intro n h
    have hs : ¬ n < 128 := by
      have : 128 ^ 1 ≤ 128 ^ (k + 1) := Nat.pow_le_pow_right (by decide) (by omega)
      omega
    rw [vint_big hs, List.length_cons]
    have := ih (n / 128) (by rw [Nat.le_div_iff_mul_le (by decide)]; rw [Nat.pow_succ] at h; exact h)
    omega
theorem vint_at (n b : Int) (x : Nat) (h0 : 0 ≤ n) (h1 : n < 2 ^ (7 * x)) (hb : 0 ≤ b) (hb1 : b < 128) :
    (vint (n + b % 128 * 2 ^ (7 * x)).toNat).length = x + 1 ↔ ¬ (b = 0 ∧ 0 < x) := by
  obtain ⟨n, rfl⟩ := Int.eq_ofNat_of_zero_le h0
  obtain ⟨b, rfl⟩ := Int.eq_ofNat_of_zero_le hb
  have e : (2 : Nat) ^ (7 * x) = 128 ^ x := by rw [show (128 : Nat) = 2 ^ 7 by decide, ← Nat.pow_mul]
  have h1' : n < 128 ^ x := by rw [← e]; exact_mod_cast h1
  have e1 : ((n : Int) + (b : Int) % 128 * 2 ^ (7 * x)).toNat = n + b * 128 ^ x := by
    rw [Int.emod_eq_of_lt hb hb1, ← e]
    have : (n : Int) + (b : Int) * 2 ^ (7 * x) = ((n + b * 2 ^ (7 * x) : Nat) : Int) := by simp
    rw [this, Int.toNat_natCast]
  rw [e1]
  have hpos : 0 < 128 ^ x := Nat.pow_pos (by decide)
  by_cases hb0 : b = 0
  · subst hb0
    simp only [Nat.zero_mul, Nat.add_zero]
    rcases x with _ | x
    · have : n = 0 := by simpa using h1'
      subst this
      simp [vint_small]
    · have := vint_le x n h1'
      constructor
      · intro h; omega
      · intro h; exact absurd ⟨rfl, by omega⟩ h
  · refine ⟨fun _ h => hb0 (by have := h.1; omega), fun _ => ?_⟩
    have h2 : n + b * 128 ^ x < 128 ^ (x + 1) := by
      rw [Nat.pow_succ]
      have : b * 128 ^ x ≤ 127 * 128 ^ x := Nat.mul_le_mul_right _ (by omega)
      omega
    have h3 : 128 ^ x ≤ n + b * 128 ^ x := by
      have : 1 * 128 ^ x ≤ b * 128 ^ x := Nat.mul_le_mul_right _ (by omega)
      omega
    have := vint_le x _ h2
    have := vint_ge x _ h3
    omega
theorem mul_step (n b x wt : Int) (hx0 : 0 ≤ x) (hx : x < 5) (h0 : 0 ≤ n) (h1 : n < 2 ^ (7 * x.toNat)) (hw : wt = 2 ^ (7 * x.toNat)) (hb : 0 ≤ b) (hb2 : b ≤ 255) :
    wrap64 (n + wrap64 (b % 128 * wt)) = n + b % 128 * 2 ^ (7 * x.toNat) := by
  subst hw
  have h4 : x.toNat ≤ 4 := by omega
  generalize x.toNat = y at *
  have hp : (2 : Int) ^ (7 * y) ≤ 2 ^ 28 := by exact_mod_cast Nat.pow_le_pow_right (n := 2) (by decide) (show 7 * y ≤ 28 by omega)
  have hpos : (0 : Int) ≤ 2 ^ (7 * y) := Int.pow_nonneg (by decide)
  have hm : b % 128 * 2 ^ (7 * y) ≤ 127 * 2 ^ 28 := Int.mul_le_mul (by omega) hp hpos (by decide)
  have hm0 : 0 ≤ b % 128 * 2 ^ (7 * y) := Int.mul_nonneg (by omega) hpos
  generalize b % 128 * 2 ^ (7 * y) = q at *
  unfold wrap64
  omega
theorem wt_step {x : Int} (h : 0 ≤ x) : (2 : Int) ^ (7 * x.toNat) * 128 = 2 ^ (7 * (x + 1).toNat) := by
  have e : 7 * (x + 1).toNat = 7 * x.toNat + 7 := by omega
  rw [e, Int.pow_add]
  rfl
set_option maxHeartbeats 4000000 in
set_option maxRecDepth 100000 in
theorem ref01_GetInt (A : Option Addr) (c : Nat) (l : List Int) (a : Int) (w : World) (hr : CB w A l) (hc : l.length ≤ c) (hw : wfB l) (ha : -4611686018427387904 ≤ a ∧ a ≤ 4611686018427387904) (hL : l.length ≤ 4611686018427387904) :
    Calls Try.prog 114 #[.slice A l.length c, .int .i64 a] w fun e w' => e = .returned (.tuple #[.int .i64 (getI l a).1, .int .i64 (getI l a).2.1, .int .i64 (getI l a).2.2]) ∧ Below w.heap.size w w' := by
  have HR := Aside0.mk hr
  have HW := Aside0.mk hw
  have HC := Aside0.mk hc
  clear hr hw
  cases hq0 : decide (a < 0) with
  | true =>
    have HE := Aside0.mk (show getI l a = (0, 0, 11) by unfold getI; rw [if_pos (.inl (of_decide_eq_true hq0))])
    go_enter Try.func114, Try.ntmps114
    go_wp2
    go_ret3
    exact ⟨by rw [HE.out]; rfl, Below.refl _ _⟩
  | false =>
    cases hq1 : decide ((l.length : Int) < a) with
    | true =>
      have HE := Aside0.mk (show getI l a = (0, 0, 11) by unfold getI; rw [if_pos (.inr (of_decide_eq_true hq1))])
      go_enter Try.func114, Try.ntmps114
      go_wp2
      go_ret3
      exact ⟨by rw [HE.out]; rfl, Below.refl _ _⟩
    | false =>
      have ha0 : 0 ≤ a := by have := of_decide_eq_false hq0; omega
      have ha1 : a ≤ l.length := by have := of_decide_eq_false hq1; omega
      have HG := Aside0.mk (getI_in ha0 ha1)
      go_enter Try.func114, Try.ntmps114
      go_wp2_with fail
      go_loopw [7, 8, 9] (fun v7 v8 v9 wr => ∃ n wt y : Int, v7 = .int .i64 n ∧ v8 = .int .i64 wt ∧ v9 = .int .i64 y ∧ a ≤ y ∧ y ≤ l.length ∧ y ≤ a + 5 ∧ 0 ≤ n ∧ n < 34359738368 ∧ Aside0 (Below w.heap.size w wr) ∧ Aside0 (gi (l.drop y.toNat) (y - a).toNat n = gi (l.drop a.toNat) 0 0 ∧ n < 2 ^ (7 * (y - a).toNat) ∧ wt = 2 ^ (7 * (y - a).toNat))) (fun _ _ v9 _ => l.length - (intOf v9).toNat)
      case atStart => exact ⟨0, 1, a, rfl, rfl, rfl, by omega, by omega, by omega, by omega, by omega, ⟨Below.refl _ _⟩, ⟨by simp, by simp, by simp⟩⟩
      case round =>
        obtain ⟨n, wt, y, rfl, rfl, rfl, h0, h1, h1', h2, h3, HB, HA⟩ := hrel
        cases hq2 : decide (y < l.length) with
        | false =>
          have HE := Aside0.mk (show getI l a = (0, 0, 11) by rw [HG.out, ← HA.out.1, gi_nil _ _ (by have := of_decide_eq_false hq2; omega)]; rfl)
          go_wp2_with fail
          go_ret3
          exact ⟨by rw [HE.out]; rfl, HB.out⟩
        | true =>
          cases hq3 : decide (y - a < 5) with
          | false =>
            have HE := Aside0.mk (show getI l a = (0, 0, 11) by rw [HG.out, ← HA.out.1, gi_5' (by have := of_decide_eq_false hq3; omega)]; rfl)
            go_wp2_with fail
            go_ret3
            exact ⟨by rw [HE.out]; rfl, HB.out⟩
          | true =>
            have hlt := of_decide_eq_true hq2
            have hx4 := of_decide_eq_true hq3
            have hy0 : 0 ≤ y := by omega
            obtain ⟨ad, e1, hx⟩ := Kd.at_int (Kd.C_below HR.out HB.out) y hy0 hlt
            subst e1
            obtain ⟨hc0, hc255⟩ := wf_rd HW.out hy0 hlt
            obtain ⟨b, hb⟩ : ∃ b, rd l y = b := ⟨_, rfl⟩
            rw [hb] at hx hc0 hc255
            have HD := Aside0.mk hb
            clear hb
            have HS := Aside0.mk (gi_step' (n := n) ha0 h0 hlt hx4)
            have h6 : (2 : Int) ^ (7 * (y - a).toNat) ≤ 2 ^ 28 := by exact_mod_cast Nat.pow_le_pow_right (n := 2) (by decide) (show 7 * (y - a).toNat ≤ 28 by omega)
            have h7 : (0 : Int) < 2 ^ (7 * (y - a).toNat) := Int.pow_pos (by decide)
            have HW2 := Aside0.mk (show wt ≤ 268435456 ∧ 0 < wt by rw [HA.out.2.2]; exact ⟨by omega, h7⟩)
            clear h6 h7
            have hw1 := HW2.out.1
            have hw2 := HW2.out.2
            have hyx : 0 ≤ y - a := by omega
            have HO := Aside0.mk (mul_step n b (y - a) wt hyx hx4 h2 HA.out.2.1 HA.out.2.2 hc0 hc255)
            have HN := Aside0.mk (step_lt n b (y - a) hyx HA.out.2.1 hc0)
            have HV := Aside0.mk (fun hb1 => vint_at n b (y - a).toNat h2 HA.out.2.1 hc0 hb1)
            have HT := Aside0.mk (wt_step hyx)
            rw [← HO.out] at HN HV
            rw [show y - a + 1 = y + 1 - a by omega] at HN HT
            obtain ⟨q, hq⟩ : ∃ q, wrap64 (n + wrap64 (b % 128 * wt)) = q := ⟨_, rfl⟩
            rw [hq] at HN HV HO
            have h4 : 0 ≤ q := by rw [HO.out]; exact Int.add_nonneg h2 (Int.mul_nonneg (by omega) (Int.pow_nonneg (by decide)))
            have h5 : q < 34359738368 := by
              have := HN.out
              have h6 : (2 : Int) ^ (7 * (y + 1 - a).toNat) ≤ 2 ^ 35 := by exact_mod_cast Nat.pow_le_pow_right (n := 2) (by decide) (show 7 * (y + 1 - a).toNat ≤ 35 by omega)
              omega
            cases hq4 : decide (128 ≤ b) with
            | true =>
              have hb8 := of_decide_eq_true hq4
              go_wp2_with fail
              go_roundw
              case rel =>
                try rw [hq]
                refine ⟨q, wt * 128, y + 1, rfl, rfl, rfl, by omega, by omega, by omega, h4, h5, HB, ⟨?_, HN.out, ?_⟩⟩
                · rw [← HA.out.1, HS.out, HD.out, if_neg (by omega), ← HO.out]
                · rw [HA.out.2.2]; exact HT.out
              case measure => simp only [intOf]; omega
            | false =>
              have hb8 : b < 128 := by have := of_decide_eq_false hq4; omega
              by_cases hok : okInt q
              · have hok2 : ¬ 2147483647 < q := by unfold okInt at hok; omega
                have HI := Aside0.mk hok
                clear hok
                go_wp2_with fail
                try rw [hq]
                refine (ref01_Int0 q _ HI.out).mono ?_
                rintro e w1 ⟨v, rfl, ho, hb⟩
                obtain ⟨b1, hbs⟩ : ∃ bs : List Int, vint q.toNat = bs := ⟨_, rfl⟩
                rw [hbs] at ho HV
                obtain ⟨A1, c1, rfl, hc1, hr1⟩ := ho.reads
                have HB1 := Aside0.mk (below_step HB.out hb)
                clear ho hr1 hb hc1 hbs
                cases hq5 : ((b1.length : Int) != y - a + 1) with
                | true =>
                  have HE := Aside0.mk (show getI l a = (0, 0, 11) by rw [HG.out, ← HA.out.1, HS.out, HD.out, if_pos hb8, if_pos (by rw [← HO.out]; refine .inr (Classical.byContradiction fun hh => ?_); have := (HV.out hb8).2 hh; rw [this] at hq5; simp at hq5; omega)]; rfl)
                  go_wp2_with fail
                  go_ret3
                  exact ⟨by rw [HE.out]; rfl, HB1.out⟩
                | false =>
                  have hlen : (b1.length : Int) = y - a + 1 := by simpa using hq5
                  have HE := Aside0.mk (show getI l a = (q, y + 1, 0) by rw [HG.out, ← HA.out.1, HS.out, HD.out, if_pos hb8, if_neg (by rw [← HO.out]; exact fun h => h.elim (fun h => absurd h (by omega)) (fun h => (HV.out hb8).1 (by omega) h))]; rw [← HO.out]; show (q, a + (((y - a).toNat + 1 : Nat) : Int), (0 : Int)) = _; congr 2; omega)
                  go_wp2_with fail
                  go_ret3
                  exact ⟨by rw [HE.out]; rfl, HB1.out⟩
              · have HE := Aside0.mk (show getI l a = (0, 0, 11) by rw [HG.out, ← HA.out.1, HS.out, HD.out, if_pos hb8, if_pos (by rw [← HO.out]; exact .inl (by unfold okInt at hok; omega))]; rfl)
                have HI := Aside0.mk hok
                clear hok
                go_wp2_with fail
                try rw [hq]
                refine (ref01_Int 34359738368 q _ (by omega) h5).mono ?_
                rintro e w1 ⟨v, b1, er, rfl, ho, hb, _, hno⟩
                obtain ⟨rfl, rfl⟩ := hno HI.out
                have HB1 := Aside0.mk (below_step HB.out hb)
                obtain ⟨A1, c1, rfl, hc1, hr1⟩ := ho.reads
                clear ho hb hc1 hr1 hno
                go_wp2_with fail
                go_ret3
                exact ⟨by rw [HE.out]; rfl, HB1.out⟩

end Go.Proofs.Ytophfoenaekfjaa

