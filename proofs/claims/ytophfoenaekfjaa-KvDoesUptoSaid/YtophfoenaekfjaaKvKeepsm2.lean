/- Parts of the proof of KvKeeps: The reference's Right tells a right state; no condition. Rows of bytes of a call's own: what is known of them, and appending to them. octet.Int and the reference's Int make a number's bytes; no condition. slices.Clone of bytes; a text with its length ahead. Which operations can be written. -/
import Derived.Test.YtophfoenaekfjaaKvKeepsm1
import Derived.WalkSpells
import Derived.Lib.BufferMore
import Derived.Outline
import Derived.Deep.CutRange
import Derived.Deep.DeepCutAuto
namespace Go.Proofs.Ytophfoenaekfjaa
open Go.RowKit Go.Proofs.YtophfoenaekfjaaW.PrintWords Go.Proofs.YtophfoenaekfjaaW.PrintLast Go.Proofs.YtophfoenaekfjaaW.PrintMore Go.Proofs.Ytophfoenaekfjaa.PSnapEncodes
set_option linter.unusedVariables false
set_option linter.unusedSimpArgs false
set_option maxHeartbeats 4000000 in
set_option maxRecDepth 100000 in
theorem ref09_Right (a0 : Int) (A1 A2 A3 : Option Addr) (c1 c2 c3 : Nat) (l1 : List S72) (l2 : List S87) (l3 : List S97) (w : World) (h1 : Kd.C k72 w A1 l1.length l1) (m1 : l1.length ≤ c1) (h2 : Kd.C k87 w A2 l2.length l2) (m2 : l2.length ≤ c2) (h3 : Kd.C k97 w A3 l3.length l3) (m3 : l3.length ≤ c3) :
    Calls Try.prog 63 #[.agg #[.int .i64 a0, .slice A1 l1.length c1, .slice A2 l2.length c2, .slice A3 l3.length c3]] w (PostB w fun b => (b = true ↔ goodA a0 l1 l2 l3)) := by
  have hlen := h3.2.1
  have H1 := Aside0.mk h1
  have H2 := Aside0.mk h2
  have H3 := Aside0.mk h3
  clear h1 h2 h3
  have HB := Aside0.mk (Below.refl (w.heap.size + 1) (w.alloc (.cells #[.int .i64 a0, .slice A1 l1.length c1, .slice A2 l2.length c2, .slice A3 l3.length c3] 26)))
  cases hp0 : decide (a0 < 0) with
  | true =>
    go_enter Try.func63, Try.ntmps63
    go_wp2
    go_ret
    exact ⟨false, rfl, below_of_alloc HB.out, iff_of_false (by simp) (fun h => by have := of_decide_eq_true hp0; have := h.slot; omega)⟩
  | false =>
    cases hp1 : decide (1000000 < a0) with
    | true =>
      go_enter Try.func63, Try.ntmps63
      go_wp2
      go_ret
      exact ⟨false, rfl, below_of_alloc HB.out, iff_of_false (by simp) (fun h => by have := of_decide_eq_true hp1; have := h.slot; omega)⟩
    | false =>
      go_enter Try.func63, Try.ntmps63
      go_wp2_with fail
      refine (ref07_Right _ _ _ _ (C_old H1.out HB.out) m1).mono ?_
      rintro e w1 ⟨b, rfl, hb, hiff⟩
      have HB1 := Aside0.mk (HB.out.trans (hb.mono (by simp)))
      have HS1 : w.heap.size + 1 ≤ w1.heap.size := by simpa using HB1.out.size
      clear hb HB
      have hb2 := box_cell HB1.out 2 _ rfl
      have HI := Aside0.mk hiff
      clear hiff
      cases b with
      | false =>
        go_wp2
        go_ret
        exact ⟨false, rfl, below_of_alloc HB1.out, iff_of_false (by simp) (fun h => by have := HI.out.2 h.ent; cases this)⟩
      | true =>
        go_wp2_with fail
        refine (ref08_Right _ _ _ _ (C_old H2.out HB1.out) m2).mono ?_
        rintro e w2 ⟨b, rfl, hb, hiff⟩
        have HB2 := Aside0.mk (HB1.out.trans (hb.mono HS1))
        have HS2 : w.heap.size + 1 ≤ w2.heap.size := by simpa using HB2.out.size
        clear hb HB1 HS1 hb2
        have hb3 := box_cell HB2.out 3 _ rfl
        have HI2 := Aside0.mk hiff
        clear hiff
        cases b with
        | false =>
          go_wp2
          go_ret
          exact ⟨false, rfl, below_of_alloc HB2.out, iff_of_false (by simp) (fun h => by have := HI2.out.2 h.lea; cases this)⟩
        | true =>
          go_wp2
          go_loopw [3, 29] (fun v3 v wr => ∃ last x : Int, v3 = .int .i64 last ∧ v = .int .i64 x ∧ 0 ≤ x ∧ x ≤ l3.length ∧ Aside0 ((x = 0 → last = 0) ∧ (0 < x → last = (rd_T97 l3 (x - 1)).f0)) ∧ Aside0 (Below (w.heap.size + 1) (w.alloc (.cells #[.int .i64 a0, .slice A1 l1.length c1, .slice A2 l2.length c2, .slice A3 l3.length c3] 26)) wr) ∧ Aside0 (∀ j, 0 ≤ j → j < x → goodS1 l3 j)) (fun _ v _ => l3.length - (intOf v).toNat)
          case atStart => exact ⟨0, 0, rfl, rfl, by omega, by omega, ⟨⟨fun _ => rfl, fun h => by omega⟩⟩, HB2, ⟨fun j h1 => by omega⟩⟩
          case round =>
            clear HB2 HS2 hb3
            obtain ⟨last, x, rfl, rfl, h0, hi, HL, HB, HA⟩ := hrel
            have HS : w.heap.size + 1 ≤ wr.heap.size := by simpa using HB.out.size
            by_cases hlt : x < l3.length
            · obtain ⟨ad, A, c, e1, hx0, hx1, hx2, hx3, hl, hn⟩ := at_T97 (C_old H3.out HB.out) x (by omega) (by omega)
              subst e1
              clear hn
              cases hq0 : decide ((rd_T97 l3 x).f0 ≤ last) with
              | true =>
                go_wp2
                go_ret
                exact ⟨false, rfl, below_of_alloc (by repeat (first | exact HB.out | refine below1_alloc ?_ _ HS | apply below1_drewN)), iff_of_false (by simp) (fun h => by have e := (h.ses x h0 hlt); have e1 := e.num; have e2 := e.prev; have e3 := of_decide_eq_true hq0; have e4 := HL.out.1; have e5 := HL.out.2; by_cases hx : x = 0 <;> omega)⟩
              | false =>
                cases hq1 : decide (4 < (rd_T97 l3 x).f0) with
                | true =>
                  go_wp2
                  go_ret
                  exact ⟨false, rfl, below_of_alloc (by repeat (first | exact HB.out | refine below1_alloc ?_ _ HS | apply below1_drewN)), iff_of_false (by simp) (fun h => by have e := (h.ses x h0 hlt).num; exact absurd (of_decide_eq_true hq1) (by omega))⟩
                | false =>
                  cases hq2 : decide ((rd_T97 l3 x).f1 < 1) with
                  | true =>
                    go_wp2
                    go_ret
                    exact ⟨false, rfl, below_of_alloc (by repeat (first | exact HB.out | refine below1_alloc ?_ _ HS | apply below1_drewN)), iff_of_false (by simp) (fun h => by have e := (h.ses x h0 hlt).num; exact absurd (of_decide_eq_true hq2) (by omega))⟩
                  | false =>
                    cases hq3 : decide (2147483647 < (rd_T97 l3 x).f1) with
                    | true =>
                      go_wp2
                      go_ret
                      exact ⟨false, rfl, below_of_alloc (by repeat (first | exact HB.out | refine below1_alloc ?_ _ HS | apply below1_drewN)), iff_of_false (by simp) (fun h => by have e := (h.ses x h0 hlt).num; exact absurd (of_decide_eq_true hq3) (by omega))⟩
                    | false =>
                      cases hq4 : decide ((rd_T97 l3 x).f2.f0 < 0) with
                      | true =>
                        go_wp2
                        go_ret
                        exact ⟨false, rfl, below_of_alloc (by repeat (first | exact HB.out | refine below1_alloc ?_ _ HS | apply below1_drewN)), iff_of_false (by simp) (fun h => by have e := (h.ses x h0 hlt).num; exact absurd (of_decide_eq_true hq4) (by omega))⟩
                      | false =>
                        cases hq5 : decide (6 < (rd_T97 l3 x).f2.f0) with
                        | true =>
                          go_wp2
                          go_ret
                          exact ⟨false, rfl, below_of_alloc (by repeat (first | exact HB.out | refine below1_alloc ?_ _ HS | apply below1_drewN)), iff_of_false (by simp) (fun h => by have e := (h.ses x h0 hlt).num; exact absurd (of_decide_eq_true hq5) (by omega))⟩
                        | false =>
                          cases hq6 : decide ((64 : Int) < ((rd_T97 l3 x).f2.f1.length : Int)) with
                          | true =>
                            go_wp2
                            go_ret
                            exact ⟨false, rfl, below_of_alloc (by repeat (first | exact HB.out | refine below1_alloc ?_ _ HS | apply below1_drewN)), iff_of_false (by simp) (fun h => by have e := (h.ses x h0 hlt).num; exact absurd (of_decide_eq_true hq6) (by omega))⟩
                          | false =>
                            go_wp2
                            go_roundw
                            case rel =>
                              have z0 := of_decide_eq_false hq0
                              have z1 := of_decide_eq_false hq1
                              have z2 := of_decide_eq_false hq2
                              have z3 := of_decide_eq_false hq3
                              have z4 := of_decide_eq_false hq4
                              have z5 := of_decide_eq_false hq5
                              have z6 := of_decide_eq_false hq6
                              have e4 := HL.out.1
                              have e5 := HL.out.2
                              have hg1 : 1 ≤ (rd_T97 l3 x).f0 := by
                                by_cases hx : x = 0
                                · have := e4 hx; omega
                                · have g := (HA.out (x - 1) (by omega) (by omega)).num
                                  have := e5 (by omega)
                                  omega
                              have hg : goodS1 l3 x := ⟨by omega, fun e => by have := e5 e; omega⟩
                              exact ⟨(rd_T97 l3 x).f0, x + 1, rfl, by go_num, by omega, by omega, ⟨⟨fun e => by omega, fun e => by rw [Int.add_sub_cancel]⟩⟩, ⟨by repeat (first | exact HB.out | refine below1_alloc ?_ _ HS | apply below1_drewN)⟩, ⟨fun j h1 h2 => if e : j = x then by rw [e]; exact hg else HA.out j h1 (by omega)⟩⟩
                            case measure => simp [intOf]; omega
            · go_wp2
              go_ret
              exact ⟨true, rfl, below_of_alloc HB.out, iff_of_true rfl ⟨by have := of_decide_eq_false hp0; have := of_decide_eq_false hp1; omega, HI.out.1 (by simp), HI2.out.1 (by simp), fun y h1 h2 => HA.out y h1 (by omega)⟩⟩

end Go.Proofs.Ytophfoenaekfjaa

namespace Go.Proofs.Ytophfoenaekfjaa
open Go.RowKit Go.Proofs.YtophfoenaekfjaaW.PrintWords Go.Proofs.YtophfoenaekfjaaW.PrintLast Go.Proofs.YtophfoenaekfjaaW.PrintMore Go.Proofs.Ytophfoenaekfjaa.PSnapEncodes
set_option linter.unusedVariables false
set_option linter.unusedSimpArgs false

/-- A row of bytes of the call's own (its block is none of those below base). -/
structure OB (w : World) (base : Nat) (v : Value) (l : List Int) : Prop where
  out : (Kd.int .u8).R 5 w base (fun _ => True) v l
abbrev CB (w : World) (A : Option Addr) (l : List Int) : Prop := (Kd.int .u8).C w A l.length l
section
variable {w w1 W : World} {base base' : Nat} {v : Value} {l : List Int}
theorem OB.reads (h : OB w base v l) : ∃ A c, v = .slice A l.length c ∧ l.length ≤ c ∧ CB w A l := Kd.R_reads h.out
theorem OB.reads' {A : Option Addr} {n c : Nat} (h : OB w base (.slice A n c) l) : n = l.length ∧ n ≤ c ∧ CB w A l := Kd.R_reads' h.out
theorem OB.below (h : OB w base v l) (hb : Below w.heap.size w w1) : OB w1 base v l := ⟨Kd.R_below h.out hb⟩
theorem OB.grown (h : OB w base v l) {row : Option Nat} (hg : w.grownBy w1 row) (hne : ∀ k, v.ownBlock = some k → some k ≠ row) : OB w1 base v l :=
  ⟨Kd.R_mono (Kd.R_grown (Kd.R_tight rfl h.out) hg (fun k hk => hne k hk.symm)) (fun _ _ => trivial)⟩
theorem OB.lower (h : OB w base v l) (hb : base' ≤ base) : OB w base' v l := ⟨Kd.R_lower h.out hb⟩
theorem OB.base_le (h : OB w base v l) : ∀ k, v.ownBlock = some k → base ≤ k := Kd.R_base h.out
theorem OB.lt (h : OB w base v l) : ∀ k, v.ownBlock = some k → k < w.heap.size := Kd.R_lt h.out
theorem OB_nil (w : World) (base : Nat) : OB w base (.slice none 0 0) [] := ⟨Kd.R_nil _ _ _ _ _⟩
/-- What lies below the row's base is as it was. -/
theorem below_grown' {B : Nat} {w w1 w2 : World} (h : Below B w w1) {v : Value} {l : List Int} (ho : OB w1 B v l) (hB : B ≤ w1.heap.size) (hg : w1.grownBy w2 v.ownBlock) : Below B w w2 := h.grown hg hB ho.base_le
end
theorem C_lit1 (W : World) (x : Int) : (Kd.int .u8).C (W.alloc (.cells #[.int .u8 x] 5)) (some ⟨W.heap.size, 0, none⟩) 1 [x] := by
  refine ⟨rfl, by omega, fun _ => ⟨_, rfl, fun j p hj => ?_⟩⟩
  obtain ⟨hjl, hjp⟩ := List.getElem?_eq_some_iff.1 hj
  have hj0 : j = 0 := by simp at hjl; omega
  subst hj0
  refine ⟨[.int .u8 x], rfl, by rw [← hjp]; rfl, fun i u hu => ?_⟩
  obtain ⟨hil, hiu⟩ := List.getElem?_eq_some_iff.1 hu
  have hi0 : i = 0 := by simp at hil; omega
  subst hi0
  rw [← hiu]
  exact (blk_cell (heap_alloc_new W _) 0).trans rfl
section
variable {ops : Array Oper} {rest : List Oper} {o : Oper} {a : Act} {Q : Exit → Act → World → Prop}
/-- append(v, ys...), of bytes. -/
theorem ob_append {W : World} {base : Nat} {v : Value} {xs ys : List Int} {A : Option Addr} {m c : Nat} (hgd : o.guard = none) (s x : Operand)
    (ho : o.op = .call { callee := .builtin .append, args := #[s, x], argTypes := #[29, 29] })
    (hs : a.eval s = v) (hx : a.eval x = .slice A m c) (HO : OB W base v xs) (HR : (Kd.int .u8).C W A m ys) (hbase : base ≤ W.heap.size) (hl : xs.length + m ≤ 140737488355328)
    (h : ∀ v1 w1, OB w1 base v1 (xs ++ ys) → W.grownBy w1 v.ownBlock → (v1.ownBlock = v.ownBlock ∨ ∃ b, v1.ownBlock = some b ∧ W.heap.size ≤ b) → wpList Try.prog ops Q rest (a.put o.dst v1) w1) :
    wpList Try.prog ops Q (o :: rest) a W :=
  Kd.R_append_rows (Kd.int .u8) (w0 := W) base hgd s x 29 5 (.int .u8 0) 1 ho Try.underlying29 info5 rfl (by decide) (by omega) v xs ys A m c (fun _ => True) (fun _ => False) hs hx HO.out HR (fun _ _ h => h) (fun _ h => h.elim) (fun _ _ => trivial) (Below.refl _ _) hbase (by omega)
    (fun v1 w1 h1 _ hg hat => h v1 w1 ⟨h1⟩ hg hat)
/-- []byte{..}: cells known. -/
theorem ob_lit {W : World} (xs : List Int) (inner : List Value) (hgd : o.guard = none) {N : Tmp} (hd : o.dst = some N)
    (hrun : (execOp a.eval o).run Try.prog W = .ok (.value (.slice (some ⟨W.heap.size, 0, none⟩) xs.length xs.length)) (W.alloc (.cells inner.toArray 5)))
    (hin : inner = xs.map (Value.int .u8)) (hm : xs.length ≤ 9223372036854775807)
    (h : ∀ v1 w1, OB w1 W.heap.size v1 xs → Below W.heap.size W w1 → wpList Try.prog ops Q rest (a.put o.dst v1) w1) : wpList Try.prog ops Q (o :: rest) a W :=
  Kd.R_lit (Kd.int .u8) W.heap.size 5 hgd hd (ok := fun _ => True) (okp := fun _ => True) hrun
    (by subst hin; refine ⟨by simp [Kd.int, Kd.scalar], fun j p hj => ?_⟩
        show ((xs.map (Value.int .u8)).drop (j * 1)).take 1 = [.int .u8 p]
        have hj' : (xs.map (Value.int .u8))[j]? = some (.int .u8 p) := by rw [List.getElem?_map, hj]; rfl
        obtain ⟨hjl, hjp⟩ := List.getElem?_eq_some_iff.1 hj'
        rw [Nat.mul_one, List.drop_eq_getElem_cons hjl, hjp]
        rfl) (fun _ h => h) trivial (Below.refl _ _) (Nat.le_refl _) hm
    (fun v1 w1 h1 hb _ _ => h v1 w1 ⟨h1⟩ hb)
end

end Go.Proofs.Ytophfoenaekfjaa

namespace Go.Proofs.Ytophfoenaekfjaa
open Go.RowKit Go.Proofs.YtophfoenaekfjaaW.PrintWords Go.Proofs.YtophfoenaekfjaaW.PrintLast Go.Proofs.YtophfoenaekfjaaW.PrintMore Go.Proofs.Ytophfoenaekfjaa.PSnapEncodes
set_option linter.unusedVariables false
set_option linter.unusedSimpArgs false

/-- A number's bytes. -/
def vint (n : Nat) : List Int := if h : n < 128 then [(n : Int)] else ((n % 128 + 128 : Nat) : Int) :: vint (n / 128)
termination_by n
theorem vint_small {n : Nat} (h : n < 128) : vint n = [(n : Int)] := by rw [vint]; simp [h]
theorem vint_big {n : Nat} (h : ¬ n < 128) : vint n = ((n % 128 + 128 : Nat) : Int) :: vint (n / 128) := by rw [vint]; simp [h]
theorem vint_len (n : Nat) : (vint n).length ≤ n + 1 := by
  induction n using Nat.strongRecOn with
  | _ n ih =>
    by_cases h : n < 128
    · rw [vint_small h]; simp
    · rw [vint_big h]
      have := ih (n / 128) (by omega)
      simp only [List.length_cons]
      omega
theorem vint_len5 (n : Nat) (h : n ≤ 2147483647) : (vint n).length ≤ 5 := by
  have s : ∀ m : Nat, m < 128 → (vint m).length = 1 := fun m hm => by rw [vint_small hm]; rfl
  have b : ∀ m : Nat, ¬ m < 128 → (vint m).length = (vint (m / 128)).length + 1 := fun m hm => by rw [vint_big hm]; rfl
  by_cases h1 : n < 128
  · rw [s n h1]; omega
  rw [b n h1]
  by_cases h2 : n / 128 < 128
  · rw [s _ h2]; omega
  rw [b _ h2]
  by_cases h3 : n / 128 / 128 < 128
  · rw [s _ h3]; omega
  rw [b _ h3]
  by_cases h4 : n / 128 / 128 / 128 < 128
  · rw [s _ h4]; omega
  rw [b _ h4, s _ (by omega)]
  omega
def okInt (n : Int) : Prop := 0 ≤ n ∧ n ≤ 2147483647
/-- octet.Int: the bytes, the error. -/
structure PostI (w : World) (n : Int) (e : Ending) (w' : World) : Prop where
  mk ::
  out : ∃ v b er, e = .returned (.tuple #[v, .int .i64 er]) ∧ OB w' w.heap.size v b ∧ Below w.heap.size w w' ∧ (okInt n → b = vint n.toNat ∧ er = 0) ∧ (¬ okInt n → b = [] ∧ er = 14)
theorem or128 (x : Int) (h0 : 0 ≤ x) (h1 : x ≤ 255) : Go.bits .or .u8 x 128 = x % 128 + 128 := by
  have h : ∀ y : Fin 256, Go.bits .or .u8 (y.val : Int) 128 = (y.val : Int) % 128 + 128 := by decide +kernel
  have := h ⟨x.toNat, by omega⟩
  simp only [Int.toNat_of_nonneg h0] at this
  exact this
theorem vint_step {m : Int} (h1 : 128 ≤ m) (pre : List Int) : (pre ++ [Go.bits .or .u8 (m % 256) 128]) ++ vint (m / 128).toNat = pre ++ vint m.toNat := by
  rw [vint_big (n := m.toNat) (by omega), or128 (m % 256) (by omega) (by omega), List.append_assoc]
  have e1 : (m / 128).toNat = m.toNat / 128 := by omega
  have e2 : m % 256 % 128 + 128 = ((m.toNat % 128 + 128 : Nat) : Int) := by omega
  rw [e1, e2]
  rfl
theorem vint_cons {m : Int} (h1 : 128 ≤ m) : [m % 128 + 128] ++ vint (m / 128).toNat = vint m.toNat := by
  rw [vint_big (n := m.toNat) (by omega)]
  have e1 : (m / 128).toNat = m.toNat / 128 := by omega
  have e2 : m % 128 + 128 = ((m.toNat % 128 + 128 : Nat) : Int) := by omega
  rw [e1, e2]
  rfl
theorem vint_last {m : Int} (h0 : 0 ≤ m) (h1 : ¬ 128 ≤ m) : [m % 256] = vint m.toNat := by
  rw [vint_small (by omega)]
  have e : m % 256 = ((m.toNat : Nat) : Int) := by omega
  rw [e]
set_option maxHeartbeats 4000000 in
set_option maxRecDepth 100000 in
theorem octet_Int (n : Int) (w : World) (hn : -9223372036854775808 ≤ n ∧ n ≤ 9223372036854775807) : Calls Try.prog 67 #[.int .i64 n] w (PostI w n) := by
  cases hq0 : decide (n < 0) with
  | true =>
    go_enter Try.func67, Try.ntmps67
    go_wp2
    go_ret2
    exact ⟨_, [], 14, rfl, OB_nil _ _, Below.refl _ _, fun h => absurd h.1 (by have := of_decide_eq_true hq0; omega), fun _ => ⟨rfl, rfl⟩⟩
  | false =>
    cases hq1 : decide (2147483647 < n) with
    | true =>
      go_enter Try.func67, Try.ntmps67
      go_wp2
      go_ret2
      exact ⟨_, [], 14, rfl, OB_nil _ _, Below.refl _ _, fun h => absurd h.2 (by have := of_decide_eq_true hq1; omega), fun _ => ⟨rfl, rfl⟩⟩
    | false =>
      have hn0 : 0 ≤ n := by have := of_decide_eq_false hq0; omega
      have hn1 : n ≤ 2147483647 := by have := of_decide_eq_false hq1; omega
      have HN := Aside0.mk (And.intro hn0 hn1)
      go_enter Try.func67, Try.ntmps67
      go_wp2
      go_loopw [0, 4] (fun v0 v4 wr => ∃ (m : Int) (pre : List Int), v0 = .int .i64 m ∧ 0 ≤ m ∧ m ≤ 2147483647 ∧ Aside0 (pre ++ vint m.toNat = vint n.toNat) ∧ Aside0 (OB wr w.heap.size v4 pre) ∧ Aside0 (Below w.heap.size w wr)) (fun v0 _ _ => (intOf v0).toNat)
      case atStart => exact ⟨n, [], rfl, hn0, hn1, ⟨rfl⟩, ⟨OB_nil _ _⟩, ⟨Below.refl _ _⟩⟩
      case round =>
        obtain ⟨m, pre, rfl, h0, h1, HP, HO, HB⟩ := hrel
        clear hn0 hn1 hq0 hq1
        have HS : w.heap.size ≤ wr.heap.size := HB.out.size
        have HL := Aside0.mk (show pre.length ≤ 2147483648 by have := congrArg List.length HP.out; have h2 := vint_len n.toNat; have h3 := HN.out; rw [List.length_append] at this; omega)
        cases hq : decide (128 ≤ m) with
        | true =>
          have H1 := Aside0.mk (of_decide_eq_true hq)
          go_wp2_with (first | ((with_reducible refine gate_builtin (b := .append) (xs := #[.tmp 13, .tmp 17]) rfl ?_); at_builtin; refine ob_append rfl (.tmp 13) (.tmp 17) rfl rfl rfl (HO.out.below (below_alloc (Below.refl _ _) _)) (C_lit1 _ _) ?hb ?hl ?_; (case hb => exact (by simp; omega)); (case hl => exact (by have := HL.out; omega)); intro v1 w1 ho hg hat; have HO1 := Aside0.mk ho; have HB1 := Aside0.mk (below_grown' (below1_alloc HB.out _ HS) (HO.out.below (below_alloc (Below.refl _ _) _)) (by simp; omega) hg); clear ho hg hat))
          go_roundw
          case rel => exact ⟨m / 128, _, rfl, by omega, by omega, ⟨(vint_step H1.out pre).trans HP.out⟩, HO1, HB1⟩
          case measure => have := H1.out; simp [intOf]; omega
        | false =>
          have H1 := Aside0.mk (of_decide_eq_false hq)
          go_wp2_with (first | ((with_reducible refine gate_builtin (b := .append) (xs := #[.tmp 21, .tmp 24]) rfl ?_); at_builtin; refine ob_append rfl (.tmp 21) (.tmp 24) rfl rfl rfl (HO.out.below (below_alloc (Below.refl _ _) _)) (C_lit1 _ _) ?hb ?hl ?_; (case hb => exact (by simp; omega)); (case hl => exact (by have := HL.out; omega)); intro v1 w1 ho hg hat; have HO1 := Aside0.mk ho; have HB1 := Aside0.mk (below_grown' (below1_alloc HB.out _ HS) (HO.out.below (below_alloc (Below.refl _ _) _)) (by simp; omega) hg); clear ho hg hat))
          go_ret2
          exact ⟨_, _, 0, rfl, HO1.out, HB1.out, fun _ => ⟨by rw [← HP.out, vint_last h0 (by have := H1.out; omega)], rfl⟩, fun h => absurd ⟨HN.out.1, HN.out.2⟩ h⟩
set_option maxHeartbeats 4000000 in
set_option maxRecDepth 100000 in
theorem ref01_Int (k : Nat) : ∀ (n : Int) (w : World), -9223372036854775808 ≤ n ∧ n ≤ 9223372036854775807 → n < k → Calls Try.prog 119 #[.int .i64 n] w (PostI w n) := by
  induction k with
  | zero =>
    intro n w hn hk
    have hq0 : decide (n < 0) = true := decide_eq_true (by omega)
    go_enter Try.func119, Try.ntmps119
    go_wp2
    go_ret2
    exact ⟨_, [], 14, rfl, OB_nil _ _, Below.refl _ _, fun h => absurd h.1 (by have := of_decide_eq_true hq0; omega), fun _ => ⟨rfl, rfl⟩⟩
  | succ k ih =>
    intro n w hn hk
    have IH := Aside0.mk ih
    clear ih
    cases hq0 : decide (n < 0) with
    | true =>
      go_enter Try.func119, Try.ntmps119
      go_wp2
      go_ret2
      exact ⟨_, [], 14, rfl, OB_nil _ _, Below.refl _ _, fun h => absurd h.1 (by have := of_decide_eq_true hq0; omega), fun _ => ⟨rfl, rfl⟩⟩
    | false =>
      cases hq1 : decide (2147483647 < n) with
      | true =>
        go_enter Try.func119, Try.ntmps119
        go_wp2
        go_ret2
        exact ⟨_, [], 14, rfl, OB_nil _ _, Below.refl _ _, fun h => absurd h.2 (by have := of_decide_eq_true hq1; omega), fun _ => ⟨rfl, rfl⟩⟩
      | false =>
        have hn0 : 0 ≤ n := by have := of_decide_eq_false hq0; omega
        have hn1 : n ≤ 2147483647 := by have := of_decide_eq_false hq1; omega
        have HN := Aside0.mk (And.intro hn0 hn1)
        cases hq : decide (n < 128) with
        | true =>
          have H1 := Aside0.mk (of_decide_eq_true hq)
          go_enter Try.func119, Try.ntmps119
          go_wp2_with (first | ((with_reducible refine gate_dst (N := 16) rfl ?_); refine ob_lit ([n % 256] : List Int) [.int .u8 (n % 256)] ?hg (N := 16) ?hd ?hr ?hi ?hm ?_; (case hd => rfl); (case hg => rfl); (case hr => first | (go_simp; done) | (go_simp; rfl)); (case hi => rfl); (case hm => simp); intro v2 w2 ho hb; have HO1 := Aside0.mk ho; have HB1 := Aside0.mk hb; clear ho hb))
          go_ret2
          exact ⟨_, _, 0, rfl, HO1.out, HB1.out, fun _ => ⟨vint_last hn0 (by have := H1.out; omega), rfl⟩, fun h => absurd ⟨HN.out.1, HN.out.2⟩ h⟩
        | false =>
          have H1 := Aside0.mk (of_decide_eq_false hq)
          have hw1 : 0 ≤ n / 128 := by omega
          go_enter Try.func119, Try.ntmps119
          go_wp2_with fail
          refine (IH.out (n / 128) _ (by omega) (by have := H1.out; omega)).mono ?_
          rintro e w1 ⟨v, b, er, rfl, ho, hb, hy, hno⟩
          have HY := Aside0.mk (hy (by unfold okInt; omega))
          have HO1 := Aside0.mk ho
          have HB1 := Aside0.mk hb
          have HS1 : w.heap.size ≤ w1.heap.size := hb.size
          clear hy hno ho hb
          obtain ⟨A, c, hv, hc, hr⟩ := HO1.out.reads
          have HR1 := Aside0.mk hr
          have HL := Aside0.mk (show b.length ≤ 2147483648 by have h2 := vint_len (n / 128).toNat; rw [← HY.out.1] at h2; omega)
          clear hr
          subst hv
          go_wp2_with (first | ((with_reducible refine gate_dst (N := 27) rfl ?_); refine ob_lit ([n % 128 + 128] : List Int) [.int .u8 (n % 128 + 128)] ?hg (N := 27) ?hd ?hr ?hi ?hm ?_; (case hd => rfl); (case hg => rfl); (case hr => first | (go_simp; done) | (go_simp; rfl)); (case hi => rfl); (case hm => simp); intro v2 w2 ho hb; have HO2 := Aside0.mk (OB.lower ho HS1); have HB2 := Aside0.mk (HB1.out.trans (hb.mono HS1)); have HR2 := Aside0.mk (Kd.C_below HR1.out hb); have HS2 : w.heap.size ≤ w2.heap.size := HB2.out.size; clear ho hb) | ((with_reducible refine gate_builtin (b := .append) (xs := #[.tmp 27, .tmp 28]) rfl ?_); at_builtin; refine ob_append rfl (.tmp 27) (.tmp 28) rfl rfl rfl HO2.out HR2.out ?hb ?hl ?_; (case hb => exact HS2); (case hl => exact (by have := HL.out; simp; omega)); intro v3 w3 ho hg hat; have HO3 := Aside0.mk ho; have HB3 := Aside0.mk (below_grown' HB2.out HO2.out HS2 hg); clear ho hg hat))
          go_ret2
          exact ⟨_, _, 0, rfl, HO3.out, HB3.out, fun _ => ⟨by rw [HY.out.1]; exact vint_cons (by have := H1.out; omega), rfl⟩, fun h => absurd ⟨HN.out.1, HN.out.2⟩ h⟩
/-- octet.Int at a right number. -/
structure PostI0 (w : World) (l : List Int) (e : Ending) (w' : World) : Prop where
  mk ::
  out : ∃ v, e = .returned (.tuple #[v, .int .i64 0]) ∧ OB w' w.heap.size v l ∧ Below w.heap.size w w'
theorem PostI.ok {w : World} {n : Int} {e : Ending} {w' : World} (h : PostI w n e w') (hn : okInt n) : PostI0 w (vint n.toNat) e w' := by
  obtain ⟨v, b, er, he, ho, hb, hy, _⟩ := h.out
  obtain ⟨rfl, rfl⟩ := hy hn
  exact ⟨v, he, ho, hb⟩
theorem octet_Int0 (n : Int) (w : World) (h : okInt n) : Calls Try.prog 67 #[.int .i64 n] w (PostI0 w (vint n.toNat)) := (octet_Int n w (by unfold okInt at h; omega)).mono fun _ _ hp => hp.ok h
theorem ref01_Int0 (n : Int) (w : World) (h : okInt n) : Calls Try.prog 119 #[.int .i64 n] w (PostI0 w (vint n.toNat)) := (ref01_Int 2147483648 n w (by unfold okInt at h; omega) (by unfold okInt at h; omega)).mono fun _ _ hp => hp.ok h

end Go.Proofs.Ytophfoenaekfjaa

namespace Go.Proofs.Ytophfoenaekfjaa
open Go.RowKit Go.Proofs.YtophfoenaekfjaaW.PrintWords Go.Proofs.YtophfoenaekfjaaW.PrintLast Go.Proofs.YtophfoenaekfjaaW.PrintMore Go.Proofs.Ytophfoenaekfjaa.PSnapEncodes
set_option linter.unusedVariables false
set_option linter.unusedSimpArgs false

/-- A call that hands back a row of bytes of its own. -/
structure PostBy (w : World) (l : List Int) (e : Ending) (w' : World) : Prop where
  mk ::
  out : ∃ v, e = .returned v ∧ OB w' w.heap.size v l ∧ Below w.heap.size w w'
theorem grown_trans {w w1 w2 : World} {row : Option Nat} (h : Below w.heap.size w w1) (hg : w1.grownBy w2 row) : w.grownBy w2 row :=
  ⟨hg.os.trans h.os, hg.tape.trans h.tape, hg.output.trans h.output, Nat.le_trans h.size hg.size, fun k hk hne => (hg.block k (Nat.lt_of_lt_of_le hk h.size) hne).trans (h.block k hk)⟩
theorem grown_below {w w1 w2 : World} {row : Option Nat} (hg : w.grownBy w1 row) (h : Below w1.heap.size w1 w2) : w.grownBy w2 row :=
  ⟨h.os.trans hg.os, h.tape.trans hg.tape, h.output.trans hg.output, Nat.le_trans hg.size h.size, fun k hk hne => (h.block k (Nat.lt_of_lt_of_le hk hg.size)).trans (hg.block k hk hne)⟩
theorem at_trans {w w1 : World} {u v : Value} (h : w.heap.size ≤ w1.heap.size) (hat : v.ownBlock = u.ownBlock ∨ ∃ b, v.ownBlock = some b ∧ w1.heap.size ≤ b) : v.ownBlock = u.ownBlock ∨ ∃ b, v.ownBlock = some b ∧ w.heap.size ≤ b :=
  hat.imp id (fun ⟨b, h1, h2⟩ => ⟨b, h1, Nat.le_trans h h2⟩)
/-- Two appends in line. -/
theorem at_chain {w w1 : World} {u v x : Value} (hs : w.heap.size ≤ w1.heap.size) (h1 : v.ownBlock = u.ownBlock ∨ ∃ b, v.ownBlock = some b ∧ w.heap.size ≤ b) (h2 : x.ownBlock = v.ownBlock ∨ ∃ b, x.ownBlock = some b ∧ w1.heap.size ≤ b) :
    x.ownBlock = u.ownBlock ∨ ∃ b, x.ownBlock = some b ∧ w.heap.size ≤ b := by
  rcases h2 with h2 | ⟨b, h2, h3⟩
  · rw [h2]; exact h1
  · exact .inr ⟨b, h2, Nat.le_trans hs h3⟩
theorem grown_chain {w w1 w2 : World} {u v : Value} (h1 : w.grownBy w1 u.ownBlock) (hat : v.ownBlock = u.ownBlock ∨ ∃ b, v.ownBlock = some b ∧ w.heap.size ≤ b) (h2 : w1.grownBy w2 v.ownBlock) : w.grownBy w2 u.ownBlock :=
  ⟨h2.os.trans h1.os, h2.tape.trans h1.tape, h2.output.trans h1.output, Nat.le_trans h1.size h2.size, fun k hk hne => by
    refine (h2.block k (Nat.lt_of_lt_of_le hk h1.size) ?_).trans (h1.block k hk hne)
    rcases hat with h | ⟨b, h, hb⟩
    · rw [h]; exact hne
    · rw [h]; intro e; injection e with e; omega⟩
/-- A call that appends to a row of bytes that it was handed. -/
structure PostAp (w : World) (base : Nat) (u : Value) (l : List Int) (e : Ending) (w' : World) : Prop where
  mk ::
  out : ∃ v, e = .returned v ∧ OB w' base v l ∧ w.grownBy w' u.ownBlock ∧ (v.ownBlock = u.ownBlock ∨ ∃ b, v.ownBlock = some b ∧ w.heap.size ≤ b)
set_option maxHeartbeats 4000000 in
set_option maxRecDepth 100000 in
theorem slices_Clone (A : Option Addr) (c : Nat) (l : List Int) (w : World) (hr : CB w A l) (hl : l.length ≤ 140737488355328) : Calls Try.prog 97 #[.slice A l.length c] w (PostBy w l) := by
  have HL := Aside0.mk hl
  have HR := Aside0.mk hr
  cases A with
  | none =>
    have hnil : l = [] := by
      rcases Nat.eq_zero_or_pos l.length with h0 | h0
      · exact List.eq_nil_of_length_eq_zero h0
      · obtain ⟨ad, e, _⟩ := hr.2.2 h0
        cases e
    subst hnil
    clear hr hl
    have he := fun w => Lib.run_eql_slice_nil_nil (P := Try.prog) w (t := 29) (e := 5) 0 c Try.underlying29
    go_enter Try.func97, Try.ntmps97
    go_wp2
    go_ret
    exact ⟨_, rfl, OB_nil _ _, Below.refl _ _⟩
  | some ad =>
    clear hr hl
    have he := fun w => Lib.run_eql_slice_nil (P := Try.prog) w 29 5 (some ad) l.length c 0 0 Try.underlying29
    go_enter Try.func97, Try.ntmps97
    go_wp2_with (first | ((with_reducible refine gate_dst (N := 5) rfl ?_); refine ob_lit ([] : List Int) [] ?hg (N := 5) ?hd ?hr ?hi ?hm ?_; (case hd => rfl); (case hg => rfl); (case hr => first | (go_simp; done) | (go_simp; rfl)); (case hi => rfl); (case hm => simp); intro v2 w2 ho hb; have HO2 := Aside0.mk ho; have HB2 := Aside0.mk hb; have HR2 := Aside0.mk (Kd.C_below HR.out hb); have HS2 : w.heap.size ≤ w2.heap.size := HB2.out.size; clear ho hb) | ((with_reducible refine gate_builtin (b := .append) (xs := #[.tmp 5, .tmp 6]) rfl ?_); at_builtin; refine ob_append rfl (.tmp 5) (.tmp 6) rfl rfl rfl HO2.out HR2.out ?hb ?hl ?_; (case hb => exact HS2); (case hl => exact (by have := HL.out; simp; omega)); intro v3 w3 ho hg hat; have HO3 := Aside0.mk ho; have HB3 := Aside0.mk (below_grown' HB2.out HO2.out HS2 hg); clear ho hg hat))
    go_ret
    exact ⟨_, rfl, HO3.out, HB3.out⟩
set_option maxHeartbeats 4000000 in
set_option maxRecDepth 100000 in
theorem ref01_Bytes (A : Option Addr) (c : Nat) (l : List Int) (w : World) (hr : CB w A l) (hl : l.length ≤ 2147483647) : Calls Try.prog 120 #[.slice A l.length c] w (PostBy w (vint l.length ++ l)) := by
  have HL := Aside0.mk hl
  have HR := Aside0.mk hr
  clear hr
  go_enter Try.func120, Try.ntmps120
  go_wp2_with fail
  refine (ref01_Int 2147483648 l.length _ (by omega) (by omega)).mono ?_
  rintro e w1 ⟨v, b, er, rfl, ho, hb, hy, hno⟩
  have HY := Aside0.mk (hy (by unfold okInt; omega))
  obtain ⟨A1, c1, rfl, hc1, hr1⟩ := ho.reads
  have HO1 := Aside0.mk ho
  have HB1 := Aside0.mk hb
  have HR1 := Aside0.mk (Kd.C_below HR.out hb)
  have HL1 := Aside0.mk (show b.length ≤ 5 by rw [HY.out.1, Int.toNat_natCast]; exact vint_len5 _ hl)
  have HS1 : w.heap.size ≤ w1.heap.size := hb.size
  clear hy hno ho hb hr1
  go_wp2_with (first | ((with_reducible refine gate_builtin (b := .append) (xs := #[.tmp 11, .tmp 12]) rfl ?_); at_builtin; refine ob_append rfl (.tmp 11) (.tmp 12) rfl rfl rfl HO1.out HR1.out ?hb ?hl ?_; (case hb => exact HS1); (case hl => exact (by have := HL.out; have := HL1.out; omega)); intro v2 w2 ho hg hat; have HO2 := Aside0.mk ho; have HB2 := Aside0.mk (below_grown' HB1.out HO1.out HS1 hg); clear ho hg hat))
  go_ret
  exact ⟨_, rfl, by have := HO2.out; rw [HY.out.1, Int.toNat_natCast] at this; exact this, HB2.out⟩
set_option maxHeartbeats 4000000 in
set_option maxRecDepth 100000 in
theorem ref10_text (base : Nat) (u : Value) (l0 : List Int) (A : Option Addr) (c : Nat) (l : List Int) (w : World) (hB : base ≤ w.heap.size) (ho : OB w base u l0) (hr : CB w A l) (hl : l.length ≤ 2147483647) (hl0 : l0.length ≤ 137438953472) :
    Calls Try.prog 71 #[u, .slice A l.length c] w (PostAp w base u (l0 ++ (vint l.length ++ l))) := by
  have HL := Aside0.mk hl
  have HL0 := Aside0.mk hl0
  have HO := Aside0.mk ho
  have HR := Aside0.mk hr
  have HL1 := Aside0.mk (vint_len5 l.length hl)
  clear hr ho
  go_enter Try.func71, Try.ntmps71
  go_wp2_with fail
  refine (ref01_Bytes _ _ _ _ HR.out hl).mono ?_
  rintro e w1 ⟨v, rfl, ho, hb⟩
  obtain ⟨b1, hbs⟩ : ∃ bs : List Int, vint l.length ++ l = bs := ⟨_, rfl⟩
  rw [hbs] at ho
  have HE1 := Aside0.mk hbs
  clear hbs
  obtain ⟨A1, c1, rfl, hc, hr1⟩ := ho.reads
  have HOwn1 := Aside0.mk ho
  have HR1 := Aside0.mk hr1
  have Hb1 := Aside0.mk hb
  clear ho hr1 hb hc
  have HO1 := Aside0.mk (HO.out.below Hb1.out)
  have HS1 : base ≤ w1.heap.size := Nat.le_trans hB Hb1.out.size
  have HL2 := Aside0.mk (show b1.length ≤ 5 + l.length by rw [← HE1.out, List.length_append]; have := HL1.out; omega)
  clear HO
  go_wp2_with (first | ((with_reducible refine gate_builtin (b := .append) (xs := #[.tmp 5, .tmp 7]) rfl ?_); at_builtin; refine ob_append rfl (.tmp 5) (.tmp 7) rfl rfl rfl HO1.out HR1.out ?hb ?hl ?_; (case hb => exact HS1); (case hl => exact (by have := HL.out; have := HL0.out; have := HL2.out; omega)); intro v2 w2 ho hg hat; have HO2 := Aside0.mk ho; have HG := Aside0.mk (grown_trans Hb1.out hg); have HT := Aside0.mk (at_trans Hb1.out.size hat); clear ho hg hat))
  go_ret
  exact ⟨_, rfl, by rw [HE1.out]; exact HO2.out, HG.out, HT.out⟩

end Go.Proofs.Ytophfoenaekfjaa

namespace Go.Proofs.Ytophfoenaekfjaa
open Go.RowKit Go.Proofs.YtophfoenaekfjaaW.PrintWords Go.Proofs.YtophfoenaekfjaaW.PrintLast Go.Proofs.YtophfoenaekfjaaW.PrintMore Go.Proofs.Ytophfoenaekfjaa.PSnapEncodes
set_option linter.unusedVariables false
set_option linter.unusedSimpArgs false

/-- An operation that can be written. -/
structure goodO (k : Int) (n a b : List Int) (num : Int) : Prop where
  kind : 1 ≤ k ∧ k ≤ 8
  name : 1 ≤ n.length ∧ n.length ≤ 16 ∧ a.length ≤ 64 ∧ b.length ≤ 64
  first : a.length = 0 ∨ k = 2 ∨ k = 3
  second : b.length = 0 ∨ k = 3
  term : ((k = 5 ∨ k = 6) ∧ 1 ≤ num ∧ num ≤ 1000) ∨ ((k ≠ 5 ∧ k ≠ 6) ∧ num = 0)
def nameB (n a b : List Int) : Bool := decide (1 ≤ n.length ∧ n.length ≤ 16 ∧ a.length ≤ 64 ∧ b.length ≤ 64)
def firstB (k : Int) (a : List Int) : Bool := decide (a.length = 0 ∨ k = 2 ∨ k = 3)
def secondB (k : Int) (b : List Int) : Bool := decide (b.length = 0 ∨ k = 3)
def termB (k num : Int) : Bool := decide (((k = 5 ∨ k = 6) ∧ 1 ≤ num ∧ num ≤ 1000) ∨ ((k ≠ 5 ∧ k ≠ 6) ∧ num = 0))
theorem dec_t {p : Prop} [Decidable p] (h : p) : Value.bool true = Value.bool (decide p) := by rw [decide_eq_true h]
theorem dec_f {p : Prop} [Decidable p] (h : ¬ p) : Value.bool false = Value.bool (decide p) := by rw [decide_eq_false h]
theorem ne_of_beq_false {x y : Int} (h : (x == y) = false) : x ≠ y := by simpa using h
set_option maxHeartbeats 4000000 in
set_option maxRecDepth 100000 in
theorem kv_right (k : Int) (A1 A2 A3 : Option Addr) (c1 c2 c3 : Nat) (n a b : List Int) (num : Int) (w : World) :
    Calls Try.prog 93 #[.agg #[.int .i64 k, .slice A1 n.length c1, .slice A2 a.length c2, .slice A3 b.length c3, .int .i64 num]] w (PostB w fun r => (r = true ↔ goodO k n a b num)) := by
  go_enter Try.func93, Try.ntmps93
  go_upto_region 1 with fail
  go_cut [3] (fun v wx => v = .bool (nameB n a b) ∧ wx = w.alloc (.cells #[.int .i64 k, .slice A1 n.length c1, .slice A2 a.length c2, .slice A3 b.length c3, .int .i64 num] 63))
  case first =>
    cases hq0 : decide (1 ≤ (n.length : Int)) with
    | false =>
      go_wp2
      go_meet
      all_goals exact ⟨(by have z0 := of_decide_eq_false hq0; exact dec_f (by omega)), rfl⟩
    | true =>
      cases hq1 : decide ((n.length : Int) ≤ 16) with
      | false =>
        go_wp2
        go_meet
        all_goals exact ⟨(by have z0 := of_decide_eq_true hq0; have z1 := of_decide_eq_false hq1; exact dec_f (by omega)), rfl⟩
      | true =>
        cases hq2 : decide ((a.length : Int) ≤ 64) with
        | false =>
          go_wp2
          go_meet
          all_goals exact ⟨(by have z0 := of_decide_eq_true hq0; have z1 := of_decide_eq_true hq1; have z2 := of_decide_eq_false hq2; exact dec_f (by omega)), rfl⟩
        | true =>
          cases hq3 : decide ((b.length : Int) ≤ 64) with
          | false =>
            go_wp2
            go_meet
            all_goals exact ⟨(by have z0 := of_decide_eq_true hq0; have z1 := of_decide_eq_true hq1; have z2 := of_decide_eq_true hq2; have z3 := of_decide_eq_false hq3; exact dec_f (by omega)), rfl⟩
          | true =>
            go_wp2
            go_meet
            all_goals exact ⟨(by have z0 := of_decide_eq_true hq0; have z1 := of_decide_eq_true hq1; have z2 := of_decide_eq_true hq2; have z3 := of_decide_eq_true hq3; exact dec_t (by omega)), rfl⟩
  case rest =>
    obtain ⟨rfl, rfl⟩ := hcut
    go_upto_region 2 with fail
    go_cut [4] (fun v wx => v = .bool (firstB k a) ∧ wx = w.alloc (.cells #[.int .i64 k, .slice A1 n.length c1, .slice A2 a.length c2, .slice A3 b.length c3, .int .i64 num] 63))
    case first =>
      cases hq0 : ((a.length : Int) == 0) with
      | true =>
        go_wp2
        go_meet
        all_goals exact ⟨(by have z0 := eq_of_beq hq0; exact dec_t (by omega)), rfl⟩
      | false =>
        cases hq1 : (k == 2) with
        | true =>
          go_wp2
          go_meet
          all_goals exact ⟨(by have z0 := ne_of_beq_false hq0; have z1 := eq_of_beq hq1; exact dec_t (by omega)), rfl⟩
        | false =>
          cases hq2 : (k == 3) with
          | true =>
            go_wp2
            go_meet
            all_goals exact ⟨(by have z0 := ne_of_beq_false hq0; have z1 := ne_of_beq_false hq1; have z2 := eq_of_beq hq2; exact dec_t (by omega)), rfl⟩
          | false =>
            go_wp2
            go_meet
            all_goals exact ⟨(by have z0 := ne_of_beq_false hq0; have z1 := ne_of_beq_false hq1; have z2 := ne_of_beq_false hq2; exact dec_f (by omega)), rfl⟩
    case rest =>
      obtain ⟨rfl, rfl⟩ := hcut
      go_upto_region 3 with fail
      go_cut [5] (fun v wx => v = .bool (secondB k b) ∧ wx = w.alloc (.cells #[.int .i64 k, .slice A1 n.length c1, .slice A2 a.length c2, .slice A3 b.length c3, .int .i64 num] 63))
      case first =>
        cases hq0 : ((b.length : Int) == 0) with
        | true =>
          go_wp2
          go_meet
          all_goals exact ⟨(by have z0 := eq_of_beq hq0; exact dec_t (by omega)), rfl⟩
        | false =>
          cases hq1 : (k == 3) with
          | true =>
            go_wp2
            go_meet
            all_goals exact ⟨(by have z0 := ne_of_beq_false hq0; have z1 := eq_of_beq hq1; exact dec_t (by omega)), rfl⟩
          | false =>
            go_wp2
            go_meet
            all_goals exact ⟨(by have z0 := ne_of_beq_false hq0; have z1 := ne_of_beq_false hq1; exact dec_f (by omega)), rfl⟩
      case rest =>
        obtain ⟨rfl, rfl⟩ := hcut
        obtain ⟨tb, htb⟩ : ∃ r : Bool, termB k num = r := ⟨_, rfl⟩
        obtain ⟨nb, hnb⟩ : ∃ r : Bool, nameB n a b = r := ⟨_, rfl⟩
        obtain ⟨fb, hfb⟩ : ∃ r : Bool, firstB k a = r := ⟨_, rfl⟩
        obtain ⟨sb2, hsb⟩ : ∃ r : Bool, secondB k b = r := ⟨_, rfl⟩
        rw [hnb, hfb, hsb]
        have HN := Aside0.mk hnb
        have HF := Aside0.mk hfb
        have HS := Aside0.mk hsb
        have HT := Aside0.mk htb
        clear hnb hfb hsb htb
        cases hn0 : (num == 0) with
        | false =>
          cases h5 : (k == 5) with
          | true =>
            cases hm0 : decide (1 ≤ num) with
            | false =>
              cases hl0 : decide (1 ≤ k) with
              | false =>
                go_wp2
                go_ret
                exact ⟨false, rfl, below_alloc (Below.refl _ _) _, iff_of_false (by simp) (fun h => absurd h.kind.1 (by have := of_decide_eq_false hl0; omega))⟩
              | true =>
                cases hl1 : decide (k ≤ 8) with
                | false =>
                  go_wp2
                  go_ret
                  exact ⟨false, rfl, below_alloc (Below.refl _ _) _, iff_of_false (by simp) (fun h => absurd h.kind.2 (by have := of_decide_eq_false hl1; omega))⟩
                | true =>
                  cases hl2 : nb with
                  | false =>
                    go_wp2
                    go_ret
                    exact ⟨false, rfl, below_alloc (Below.refl _ _) _, iff_of_false (by simp) (fun h => absurd h.name (of_decide_eq_false (HN.out.trans hl2)))⟩
                  | true =>
                    cases hl3 : fb with
                    | false =>
                      go_wp2
                      go_ret
                      exact ⟨false, rfl, below_alloc (Below.refl _ _) _, iff_of_false (by simp) (fun h => absurd h.first (of_decide_eq_false (HF.out.trans hl3)))⟩
                    | true =>
                      cases hl4 : sb2 with
                      | false =>
                        go_wp2
                        go_ret
                        exact ⟨false, rfl, below_alloc (Below.refl _ _) _, iff_of_false (by simp) (fun h => absurd h.second (of_decide_eq_false (HS.out.trans hl4)))⟩
                      | true =>
                        go_wp2
                        go_ret
                        exact ⟨false, rfl, below_alloc (Below.refl _ _) _, iff_of_false (by simp) (fun h => absurd h.term (by have y0 := ne_of_beq_false hn0; have y5 := eq_of_beq h5; have y1 := of_decide_eq_false hm0; omega))⟩
            | true =>
              cases hm1 : decide (num ≤ 1000) with
              | false =>
                cases hl0 : decide (1 ≤ k) with
                | false =>
                  go_wp2
                  go_ret
                  exact ⟨false, rfl, below_alloc (Below.refl _ _) _, iff_of_false (by simp) (fun h => absurd h.kind.1 (by have := of_decide_eq_false hl0; omega))⟩
                | true =>
                  cases hl1 : decide (k ≤ 8) with
                  | false =>
                    go_wp2
                    go_ret
                    exact ⟨false, rfl, below_alloc (Below.refl _ _) _, iff_of_false (by simp) (fun h => absurd h.kind.2 (by have := of_decide_eq_false hl1; omega))⟩
                  | true =>
                    cases hl2 : nb with
                    | false =>
                      go_wp2
                      go_ret
                      exact ⟨false, rfl, below_alloc (Below.refl _ _) _, iff_of_false (by simp) (fun h => absurd h.name (of_decide_eq_false (HN.out.trans hl2)))⟩
                    | true =>
                      cases hl3 : fb with
                      | false =>
                        go_wp2
                        go_ret
                        exact ⟨false, rfl, below_alloc (Below.refl _ _) _, iff_of_false (by simp) (fun h => absurd h.first (of_decide_eq_false (HF.out.trans hl3)))⟩
                      | true =>
                        cases hl4 : sb2 with
                        | false =>
                          go_wp2
                          go_ret
                          exact ⟨false, rfl, below_alloc (Below.refl _ _) _, iff_of_false (by simp) (fun h => absurd h.second (of_decide_eq_false (HS.out.trans hl4)))⟩
                        | true =>
                          go_wp2
                          go_ret
                          exact ⟨false, rfl, below_alloc (Below.refl _ _) _, iff_of_false (by simp) (fun h => absurd h.term (by have y0 := ne_of_beq_false hn0; have y5 := eq_of_beq h5; have y1 := of_decide_eq_false hm1; omega))⟩
              | true =>
                cases hl0 : decide (1 ≤ k) with
                | false =>
                  go_wp2
                  go_ret
                  exact ⟨false, rfl, below_alloc (Below.refl _ _) _, iff_of_false (by simp) (fun h => absurd h.kind.1 (by have := of_decide_eq_false hl0; omega))⟩
                | true =>
                  cases hl1 : decide (k ≤ 8) with
                  | false =>
                    go_wp2
                    go_ret
                    exact ⟨false, rfl, below_alloc (Below.refl _ _) _, iff_of_false (by simp) (fun h => absurd h.kind.2 (by have := of_decide_eq_false hl1; omega))⟩
                  | true =>
                    cases hl2 : nb with
                    | false =>
                      go_wp2
                      go_ret
                      exact ⟨false, rfl, below_alloc (Below.refl _ _) _, iff_of_false (by simp) (fun h => absurd h.name (of_decide_eq_false (HN.out.trans hl2)))⟩
                    | true =>
                      cases hl3 : fb with
                      | false =>
                        go_wp2
                        go_ret
                        exact ⟨false, rfl, below_alloc (Below.refl _ _) _, iff_of_false (by simp) (fun h => absurd h.first (of_decide_eq_false (HF.out.trans hl3)))⟩
                      | true =>
                        cases hl4 : sb2 with
                        | false =>
                          go_wp2
                          go_ret
                          exact ⟨false, rfl, below_alloc (Below.refl _ _) _, iff_of_false (by simp) (fun h => absurd h.second (of_decide_eq_false (HS.out.trans hl4)))⟩
                        | true =>
                          go_wp2
                          go_ret
                          exact ⟨true, rfl, below_alloc (Below.refl _ _) _, iff_of_true rfl ⟨by have := of_decide_eq_true hl0; have := of_decide_eq_true hl1; omega, of_decide_eq_true (HN.out.trans hl2), of_decide_eq_true (HF.out.trans hl3), of_decide_eq_true (HS.out.trans hl4), (by have y0 := ne_of_beq_false hn0; have y5 := eq_of_beq h5; have y1 := of_decide_eq_true hm0; have y2 := of_decide_eq_true hm1; omega)⟩⟩
          | false =>
            cases h6 : (k == 6) with
            | true =>
              cases hm0 : decide (1 ≤ num) with
              | false =>
                cases hl0 : decide (1 ≤ k) with
                | false =>
                  go_wp2
                  go_ret
                  exact ⟨false, rfl, below_alloc (Below.refl _ _) _, iff_of_false (by simp) (fun h => absurd h.kind.1 (by have := of_decide_eq_false hl0; omega))⟩
                | true =>
                  cases hl1 : decide (k ≤ 8) with
                  | false =>
                    go_wp2
                    go_ret
                    exact ⟨false, rfl, below_alloc (Below.refl _ _) _, iff_of_false (by simp) (fun h => absurd h.kind.2 (by have := of_decide_eq_false hl1; omega))⟩
                  | true =>
                    cases hl2 : nb with
                    | false =>
                      go_wp2
                      go_ret
                      exact ⟨false, rfl, below_alloc (Below.refl _ _) _, iff_of_false (by simp) (fun h => absurd h.name (of_decide_eq_false (HN.out.trans hl2)))⟩
                    | true =>
                      cases hl3 : fb with
                      | false =>
                        go_wp2
                        go_ret
                        exact ⟨false, rfl, below_alloc (Below.refl _ _) _, iff_of_false (by simp) (fun h => absurd h.first (of_decide_eq_false (HF.out.trans hl3)))⟩
                      | true =>
                        cases hl4 : sb2 with
                        | false =>
                          go_wp2
                          go_ret
                          exact ⟨false, rfl, below_alloc (Below.refl _ _) _, iff_of_false (by simp) (fun h => absurd h.second (of_decide_eq_false (HS.out.trans hl4)))⟩
                        | true =>
                          go_wp2
                          go_ret
                          exact ⟨false, rfl, below_alloc (Below.refl _ _) _, iff_of_false (by simp) (fun h => absurd h.term (by have y0 := ne_of_beq_false hn0; have y5 := ne_of_beq_false h5; have y6 := eq_of_beq h6; have y1 := of_decide_eq_false hm0; omega))⟩
              | true =>
                cases hm1 : decide (num ≤ 1000) with
                | false =>
                  cases hl0 : decide (1 ≤ k) with
                  | false =>
                    go_wp2
                    go_ret
                    exact ⟨false, rfl, below_alloc (Below.refl _ _) _, iff_of_false (by simp) (fun h => absurd h.kind.1 (by have := of_decide_eq_false hl0; omega))⟩
                  | true =>
                    cases hl1 : decide (k ≤ 8) with
                    | false =>
                      go_wp2
                      go_ret
                      exact ⟨false, rfl, below_alloc (Below.refl _ _) _, iff_of_false (by simp) (fun h => absurd h.kind.2 (by have := of_decide_eq_false hl1; omega))⟩
                    | true =>
                      cases hl2 : nb with
                      | false =>
                        go_wp2
                        go_ret
                        exact ⟨false, rfl, below_alloc (Below.refl _ _) _, iff_of_false (by simp) (fun h => absurd h.name (of_decide_eq_false (HN.out.trans hl2)))⟩
                      | true =>
                        cases hl3 : fb with
                        | false =>
                          go_wp2
                          go_ret
                          exact ⟨false, rfl, below_alloc (Below.refl _ _) _, iff_of_false (by simp) (fun h => absurd h.first (of_decide_eq_false (HF.out.trans hl3)))⟩
                        | true =>
                          cases hl4 : sb2 with
                          | false =>
                            go_wp2
                            go_ret
                            exact ⟨false, rfl, below_alloc (Below.refl _ _) _, iff_of_false (by simp) (fun h => absurd h.second (of_decide_eq_false (HS.out.trans hl4)))⟩
                          | true =>
                            go_wp2
                            go_ret
                            exact ⟨false, rfl, below_alloc (Below.refl _ _) _, iff_of_false (by simp) (fun h => absurd h.term (by have y0 := ne_of_beq_false hn0; have y5 := ne_of_beq_false h5; have y6 := eq_of_beq h6; have y1 := of_decide_eq_false hm1; omega))⟩
                | true =>
                  cases hl0 : decide (1 ≤ k) with
                  | false =>
                    go_wp2
                    go_ret
                    exact ⟨false, rfl, below_alloc (Below.refl _ _) _, iff_of_false (by simp) (fun h => absurd h.kind.1 (by have := of_decide_eq_false hl0; omega))⟩
                  | true =>
                    cases hl1 : decide (k ≤ 8) with
                    | false =>
                      go_wp2
                      go_ret
                      exact ⟨false, rfl, below_alloc (Below.refl _ _) _, iff_of_false (by simp) (fun h => absurd h.kind.2 (by have := of_decide_eq_false hl1; omega))⟩
                    | true =>
                      cases hl2 : nb with
                      | false =>
                        go_wp2
                        go_ret
                        exact ⟨false, rfl, below_alloc (Below.refl _ _) _, iff_of_false (by simp) (fun h => absurd h.name (of_decide_eq_false (HN.out.trans hl2)))⟩
                      | true =>
                        cases hl3 : fb with
                        | false =>
                          go_wp2
                          go_ret
                          exact ⟨false, rfl, below_alloc (Below.refl _ _) _, iff_of_false (by simp) (fun h => absurd h.first (of_decide_eq_false (HF.out.trans hl3)))⟩
                        | true =>
                          cases hl4 : sb2 with
                          | false =>
                            go_wp2
                            go_ret
                            exact ⟨false, rfl, below_alloc (Below.refl _ _) _, iff_of_false (by simp) (fun h => absurd h.second (of_decide_eq_false (HS.out.trans hl4)))⟩
                          | true =>
                            go_wp2
                            go_ret
                            exact ⟨true, rfl, below_alloc (Below.refl _ _) _, iff_of_true rfl ⟨by have := of_decide_eq_true hl0; have := of_decide_eq_true hl1; omega, of_decide_eq_true (HN.out.trans hl2), of_decide_eq_true (HF.out.trans hl3), of_decide_eq_true (HS.out.trans hl4), (by have y0 := ne_of_beq_false hn0; have y5 := ne_of_beq_false h5; have y6 := eq_of_beq h6; have y1 := of_decide_eq_true hm0; have y2 := of_decide_eq_true hm1; omega)⟩⟩
            | false =>
              cases hl0 : decide (1 ≤ k) with
              | false =>
                go_wp2
                go_ret
                exact ⟨false, rfl, below_alloc (Below.refl _ _) _, iff_of_false (by simp) (fun h => absurd h.kind.1 (by have := of_decide_eq_false hl0; omega))⟩
              | true =>
                cases hl1 : decide (k ≤ 8) with
                | false =>
                  go_wp2
                  go_ret
                  exact ⟨false, rfl, below_alloc (Below.refl _ _) _, iff_of_false (by simp) (fun h => absurd h.kind.2 (by have := of_decide_eq_false hl1; omega))⟩
                | true =>
                  cases hl2 : nb with
                  | false =>
                    go_wp2
                    go_ret
                    exact ⟨false, rfl, below_alloc (Below.refl _ _) _, iff_of_false (by simp) (fun h => absurd h.name (of_decide_eq_false (HN.out.trans hl2)))⟩
                  | true =>
                    cases hl3 : fb with
                    | false =>
                      go_wp2
                      go_ret
                      exact ⟨false, rfl, below_alloc (Below.refl _ _) _, iff_of_false (by simp) (fun h => absurd h.first (of_decide_eq_false (HF.out.trans hl3)))⟩
                    | true =>
                      cases hl4 : sb2 with
                      | false =>
                        go_wp2
                        go_ret
                        exact ⟨false, rfl, below_alloc (Below.refl _ _) _, iff_of_false (by simp) (fun h => absurd h.second (of_decide_eq_false (HS.out.trans hl4)))⟩
                      | true =>
                        go_wp2
                        go_ret
                        exact ⟨false, rfl, below_alloc (Below.refl _ _) _, iff_of_false (by simp) (fun h => absurd h.term (by have y0 := ne_of_beq_false hn0; have y5 := ne_of_beq_false h5; have y6 := ne_of_beq_false h6; omega))⟩
        | true =>
          cases h5 : (k == 5) with
          | true =>
            have hm0 : decide (1 ≤ num) = false := decide_eq_false (by have y0 := eq_of_beq hn0; omega)
            cases hl0 : decide (1 ≤ k) with
            | false =>
              go_wp2
              go_ret
              exact ⟨false, rfl, below_alloc (Below.refl _ _) _, iff_of_false (by simp) (fun h => absurd h.kind.1 (by have := of_decide_eq_false hl0; omega))⟩
            | true =>
              cases hl1 : decide (k ≤ 8) with
              | false =>
                go_wp2
                go_ret
                exact ⟨false, rfl, below_alloc (Below.refl _ _) _, iff_of_false (by simp) (fun h => absurd h.kind.2 (by have := of_decide_eq_false hl1; omega))⟩
              | true =>
                cases hl2 : nb with
                | false =>
                  go_wp2
                  go_ret
                  exact ⟨false, rfl, below_alloc (Below.refl _ _) _, iff_of_false (by simp) (fun h => absurd h.name (of_decide_eq_false (HN.out.trans hl2)))⟩
                | true =>
                  cases hl3 : fb with
                  | false =>
                    go_wp2
                    go_ret
                    exact ⟨false, rfl, below_alloc (Below.refl _ _) _, iff_of_false (by simp) (fun h => absurd h.first (of_decide_eq_false (HF.out.trans hl3)))⟩
                  | true =>
                    cases hl4 : sb2 with
                    | false =>
                      go_wp2
                      go_ret
                      exact ⟨false, rfl, below_alloc (Below.refl _ _) _, iff_of_false (by simp) (fun h => absurd h.second (of_decide_eq_false (HS.out.trans hl4)))⟩
                    | true =>
                      go_wp2
                      go_ret
                      exact ⟨false, rfl, below_alloc (Below.refl _ _) _, iff_of_false (by simp) (fun h => absurd h.term (by have y0 := eq_of_beq hn0; have y5 := eq_of_beq h5; omega))⟩
          | false =>
            cases h6 : (k == 6) with
            | true =>
              have hm0 : decide (1 ≤ num) = false := decide_eq_false (by have y0 := eq_of_beq hn0; omega)
              cases hl0 : decide (1 ≤ k) with
              | false =>
                go_wp2
                go_ret
                exact ⟨false, rfl, below_alloc (Below.refl _ _) _, iff_of_false (by simp) (fun h => absurd h.kind.1 (by have := of_decide_eq_false hl0; omega))⟩
              | true =>
                cases hl1 : decide (k ≤ 8) with
                | false =>
                  go_wp2
                  go_ret
                  exact ⟨false, rfl, below_alloc (Below.refl _ _) _, iff_of_false (by simp) (fun h => absurd h.kind.2 (by have := of_decide_eq_false hl1; omega))⟩
                | true =>
                  cases hl2 : nb with
                  | false =>
                    go_wp2
                    go_ret
                    exact ⟨false, rfl, below_alloc (Below.refl _ _) _, iff_of_false (by simp) (fun h => absurd h.name (of_decide_eq_false (HN.out.trans hl2)))⟩
                  | true =>
                    cases hl3 : fb with
                    | false =>
                      go_wp2
                      go_ret
                      exact ⟨false, rfl, below_alloc (Below.refl _ _) _, iff_of_false (by simp) (fun h => absurd h.first (of_decide_eq_false (HF.out.trans hl3)))⟩
                    | true =>
                      cases hl4 : sb2 with
                      | false =>
                        go_wp2
                        go_ret
                        exact ⟨false, rfl, below_alloc (Below.refl _ _) _, iff_of_false (by simp) (fun h => absurd h.second (of_decide_eq_false (HS.out.trans hl4)))⟩
                      | true =>
                        go_wp2
                        go_ret
                        exact ⟨false, rfl, below_alloc (Below.refl _ _) _, iff_of_false (by simp) (fun h => absurd h.term (by have y0 := eq_of_beq hn0; have y5 := ne_of_beq_false h5; have y6 := eq_of_beq h6; omega))⟩
            | false =>
              cases hl0 : decide (1 ≤ k) with
              | false =>
                go_wp2
                go_ret
                exact ⟨false, rfl, below_alloc (Below.refl _ _) _, iff_of_false (by simp) (fun h => absurd h.kind.1 (by have := of_decide_eq_false hl0; omega))⟩
              | true =>
                cases hl1 : decide (k ≤ 8) with
                | false =>
                  go_wp2
                  go_ret
                  exact ⟨false, rfl, below_alloc (Below.refl _ _) _, iff_of_false (by simp) (fun h => absurd h.kind.2 (by have := of_decide_eq_false hl1; omega))⟩
                | true =>
                  cases hl2 : nb with
                  | false =>
                    go_wp2
                    go_ret
                    exact ⟨false, rfl, below_alloc (Below.refl _ _) _, iff_of_false (by simp) (fun h => absurd h.name (of_decide_eq_false (HN.out.trans hl2)))⟩
                  | true =>
                    cases hl3 : fb with
                    | false =>
                      go_wp2
                      go_ret
                      exact ⟨false, rfl, below_alloc (Below.refl _ _) _, iff_of_false (by simp) (fun h => absurd h.first (of_decide_eq_false (HF.out.trans hl3)))⟩
                    | true =>
                      cases hl4 : sb2 with
                      | false =>
                        go_wp2
                        go_ret
                        exact ⟨false, rfl, below_alloc (Below.refl _ _) _, iff_of_false (by simp) (fun h => absurd h.second (of_decide_eq_false (HS.out.trans hl4)))⟩
                      | true =>
                        go_wp2
                        go_ret
                        exact ⟨true, rfl, below_alloc (Below.refl _ _) _, iff_of_true rfl ⟨by have := of_decide_eq_true hl0; have := of_decide_eq_true hl1; omega, of_decide_eq_true (HN.out.trans hl2), of_decide_eq_true (HF.out.trans hl3), of_decide_eq_true (HS.out.trans hl4), (by have y0 := eq_of_beq hn0; have y5 := ne_of_beq_false h5; have y6 := ne_of_beq_false h6; omega)⟩⟩

end Go.Proofs.Ytophfoenaekfjaa

