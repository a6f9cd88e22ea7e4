/- Parts of the proof of KvDoes: Rows of bytes, written. The law KvDoes. -/
import Derived.Test.YtophfoenaekfjaaKvKeepsm5
import Derived.Test.YtophfoenaekfjaaKvKeepsm7
import Derived.Test.YtophfoenaekfjaaKvKeepsm6
import Derived.Test.YtophfoenaekfjaaKvKeepsm8
import Derived.Test.YtophfoenaekfjaaKvCommutesm1
import Derived.Outline
import Derived.Deep.RegionLaw
import Derived.Deep.CutRange
import Derived.Deep.DeepCutAuto
namespace Go.Proofs.Ytophfoenaekfjaa
open Go.RowKit Go.Proofs.YtophfoenaekfjaaW.PrintWords Go.Proofs.YtophfoenaekfjaaW.PrintLast Go.Proofs.YtophfoenaekfjaaW.PrintMore Go.Proofs.Ytophfoenaekfjaa.PSnapEncodes
set_option linter.unusedVariables false
set_option linter.unusedSimpArgs false

/-- A block of bytes: its first n cells. -/
def U8 (W : World) (b n : Nat) : Prop := ∃ cs : Array Value, W.heap[b]? = some (.cells cs 5 (0, 0)) ∧ ∀ j, j < n → ∃ x, cs[j]? = some (.int .u8 x)
theorem U8.cell {W : World} {b n : Nat} (h : U8 W b n) {j : Nat} (hj : j < n) : ∃ x, W.cell? ⟨b, j, none⟩ = some (.int .u8 x) ∧ W.frozen? ⟨b, j, none⟩ = false := by
  obtain ⟨cs, hb, hx⟩ := h
  obtain ⟨x, e⟩ := hx j hj
  exact ⟨x, (blk_cell hb j).trans e, blk_frozen hb j⟩
theorem U8.put {W : World} {b n b' n' j : Nat} (h : U8 W b n) (h' : U8 W b' n') (hj : j < n') (x : Int) : U8 (W.setCell ⟨b', j, none⟩ (.int .u8 x)) b n := by
  obtain ⟨cs, hb, hx⟩ := h
  by_cases e : b = b'
  · subst e
    refine ⟨_, blk_set hb j (.int .u8 x), fun i hi => ?_⟩
    rw [Array.getElem?_setIfInBounds]
    by_cases k : j = i
    · subst k
      rw [if_pos rfl]
      obtain ⟨y, hy⟩ := hx j hi
      rw [if_pos (Array.getElem?_eq_some_iff.1 hy).1]
      exact ⟨x, rfl⟩
    · rw [if_neg k]; exact hx i hi
  · exact ⟨cs, blk_far hb (p := ⟨b', j, none⟩) e _, hx⟩
theorem U8.below {w W : World} {b n : Nat} (h : U8 w b n) (hb : Below w.heap.size w W) : U8 W b n := by
  obtain ⟨cs, h1, h2⟩ := h
  exact ⟨cs, blk_below h1 hb, h2⟩
/-- A row of bytes of one's own. -/
theorem row_u8 {W : World} {base : Nat} {ok : Nat → Prop} {v : Value} {l : List Int} (h : (Kd.int .u8).R 5 W base ok v l) : ∃ A c, v = .slice A l.length c ∧ l.length ≤ 9223372036854775807 ∧ (l.length = 0 ∨ ∃ b, A = some ⟨b, 0, none⟩ ∧ base ≤ b ∧ U8 W b l.length) := by
  have hmx : l.length ≤ 9223372036854775807 := by
    obtain ⟨_, _, _, _, hc⟩ := Kd.R_reads h
    have := hc.2.1
    omega
  obtain ⟨_, inner, ho, hr⟩ := h
  rcases ho.2 with ⟨rfl, hn⟩ | ⟨g, cap, cur, rfl, hg, hb, _, _, _, ht⟩
  · exact ⟨none, 0, by rw [hn], hmx, .inl hn⟩
  · refine ⟨_, cap, rfl, hmx, .inr ⟨g, rfl, hg, cur, hb, fun j hj => ?_⟩⟩
    obtain ⟨c, hcl, hM, hcc, hfr⟩ := Kd.R_elem (g := g) (n := l.length) (cap := cap) ⟨‹_›, inner, ho, hr⟩ 0 (j : Int) (by omega) (by omega)
    have hM' : c = [.int .u8 (l.getD (j : Int).toNat 0)] := hM
    subst hM'
    have := hcc 0 _ rfl
    rw [← blk_cell hb]
    refine ⟨l.getD (j : Int).toNat 0, ?_⟩
    rw [Int.toNat_natCast] at this ⊢
    rw [← this]
    show W.cell? ⟨g, j, none⟩ = W.cell? ⟨g, j * 1 + 0, none⟩
    rw [Nat.mul_one, Nat.add_zero]
/-- The row of the entries: the head, and a row of bytes for each value. -/
structure RowsE (W : World) (base n go : Nat) (A : Option Addr) (cur : Array Value) : Prop where
  ad : A = some ⟨go, 0, none⟩
  lo : base ≤ go
  hd : W.heap[go]? = some (.cells cur 72 (0, 0))
  at' : ∀ i, i < n → ∃ A n c, cur[i * 2 + 1]? = some (.slice A n c) ∧ n ≤ 9223372036854775807 ∧ (n = 0 ∨ ∃ b, A = some ⟨b, 0, none⟩ ∧ base ≤ b ∧ U8 W b n)
theorem S_rows {W : World} {base : Nat} {ok : Nat → Prop} {v : Value} {xs : List S72} (h : Kd.S k72 72 W base ok v xs) : ∃ A c go cur, v = .slice A xs.length c ∧ (0 < xs.length → RowsE W base xs.length go A cur) := by
  obtain ⟨inner, ho, _⟩ := S_cells h (by decide)
  rcases ho.2 with ⟨rfl, hn⟩ | ⟨go, cap, cur, rfl, hg, hb, _, _, _, _⟩
  · exact ⟨none, 0, 0, #[], by rw [hn], fun h => by omega⟩
  · refine ⟨_, cap, go, cur, rfl, fun _ => ⟨rfl, hg, hb, fun i hi => ?_⟩⟩
    obtain ⟨oki, c, hcl, hM, hcc, hfr, hoki, hH⟩ := Kd.S_elem h z72 (i : Int) (by omega) (by omega)
    obtain ⟨v2, v3, rfl, r2, r3⟩ := k72_openM hM
    obtain ⟨A, c, rfl, hm, hu⟩ := row_u8 r3
    refine ⟨A, _, c, ?_, hm, hu⟩
    rw [← blk_cell hb]
    have := hcc 1 _ rfl
    rw [Int.toNat_natCast] at this
    exact this
/-- While rows are written: what stays. -/
structure Mu (w4 : World) (go m : Nat) (cur : Array Value) (q1 : Nat) (xv : Array Value) (Rp : Nat → Nat → Prop) (W : World) : Prop where
  bel : Below w4.heap.size w4 W
  hd : 0 < m → W.heap[go]? = some (.cells cur 72 (0, 0))
  x : W.heap[q1]? = some (.cells xv 45 (0, 0))
  rows : ∀ b n, Rp b n → w4.heap.size ≤ b ∧ U8 W b n
theorem Mu.below {w4 W W' : World} {go m q1 : Nat} {cur xv : Array Value} {Rp : Nat → Nat → Prop} (h : Mu w4 go m cur q1 xv Rp W) (hb : Below W.heap.size W W') : Mu w4 go m cur q1 xv Rp W' :=
  ⟨below_step h.bel hb, fun k => blk_below (h.hd k) hb, blk_below h.x hb, fun b n k => ⟨(h.rows b n k).1, (h.rows b n k).2.below hb⟩⟩
theorem Mu.store {w4 W : World} {go m q1 : Nat} {cur xv : Array Value} {Rp : Nat → Nat → Prop} (h : Mu w4 go m cur q1 xv Rp W) {b n j : Nat} (hr : Rp b n) (hj : j < n) (x : Int) : Mu w4 go m cur q1 xv Rp (W.setCell ⟨b, j, none⟩ (.int .u8 x)) := by
  obtain ⟨hlo, hu⟩ := h.rows b n hr
  obtain ⟨cs, hb, _⟩ := hu
  exact ⟨below_set h.bel hlo, fun k => blk_far (h.hd k) (p := ⟨b, j, none⟩) (blk_ne (h.hd k) hb (by decide)) _, blk_far h.x (p := ⟨b, j, none⟩) (blk_ne h.x hb (by decide)) _, fun b' n' k => ⟨(h.rows b' n' k).1, (h.rows b' n' k).2.put (h.rows b n hr).2 hj x⟩⟩
/-- The rows of kv.Do's answer: the values', the result's. -/
def RpE (m : Nat) (cur : Array Value) (vl : Value) (b n : Nat) : Prop := n ≠ 0 ∧ ((∃ i c, i < m ∧ cur[i * 2 + 1]? = some (.slice (some ⟨b, 0, none⟩) n c)) ∨ ∃ c, vl = .slice (some ⟨b, 0, none⟩) n c)
theorem mu_start {w4 w5 w6 : World} {m go q1 : Nat} {A : Option Addr} {cur xv : Array Value} {V : Option Addr} {u vn : Nat} (hb : Below w4.heap.size w4 w5) (hR : 0 < m → RowsE w5 w4.heap.size m go A cur) (hV : vn = 0 ∨ ∃ b, V = some ⟨b, 0, none⟩ ∧ w4.heap.size ≤ b ∧ U8 w5 b vn)
    (h6 : Below w5.heap.size w5 w6) (hx : w6.heap[q1]? = some (.cells xv 45 (0, 0))) : Mu w4 go m cur q1 xv (RpE m cur (.slice V vn u)) w6 := by
  refine ⟨below_step hb h6, fun k => blk_below (hR k).hd h6, hx, ?_⟩
  rintro b n ⟨hn, ⟨i, c, hi, hc⟩ | ⟨c, hc⟩⟩
  · obtain ⟨A', n', c', e, _, h⟩ := (hR (by omega)).at' i hi
    rw [e] at hc
    injection hc with hc
    injection hc with h1 h2 h3
    subst h1 h2
    rcases h with h | ⟨b', h1, h2, h3⟩
    · exact absurd h hn
    · injection h1 with h1
      injection h1 with h1
      subst h1
      exact ⟨h2, h3.below h6⟩
  · injection hc with h1 h2 h3
    subst h1 h2
    rcases hV with h | ⟨b', h1, h2, h3⟩
    · exact absurd h hn
    · injection h1 with h1
      injection h1 with h1
      subst h1
      exact ⟨h2, h3.below h6⟩
/-- A value's row, at a round. -/
theorem Mu.row {w4 W w5 : World} {go m q1 : Nat} {A : Option Addr} {cur xv : Array Value} {vl : Value} (h : Mu w4 go m cur q1 xv (RpE m cur vl) W) (hR : 0 < m → RowsE w5 w4.heap.size m go A cur) (i : Nat) (hi : i < m) :
    A = some ⟨go, 0, none⟩ ∧ ∃ A' n c, cur[i * 2 + 1]? = some (.slice A' n c) ∧ n ≤ 9223372036854775807 ∧ (n = 0 ∨ ∃ b, A' = some ⟨b, 0, none⟩ ∧ RpE m cur vl b n) := by
  have hr := hR (by omega)
  obtain ⟨A', n', c', e, hm, hu⟩ := hr.at' i hi
  refine ⟨hr.ad, A', n', c', e, hm, ?_⟩
  by_cases hn : n' = 0
  · exact .inl hn
  · rcases hu with h1 | ⟨b, h1, _, _⟩
    · exact absurd h1 hn
    · subst h1
      exact .inr ⟨b, rfl, hn, .inl ⟨i, c', hi, e⟩⟩
theorem Mu.at1 {w4 W : World} {go m q1 : Nat} {cur xv : Array Value} {Rp : Nat → Nat → Prop} (h : Mu w4 go m cur q1 xv Rp W) (hm : 0 < m) {j : Nat} {v : Value} (e : cur[j]? = some v) : W.cell? ⟨go, j, none⟩ = some v := (blk_cell (h.hd hm) _).trans e

end Go.Proofs.Ytophfoenaekfjaa

namespace Go.Proofs.Ytophfoenaekfjaa
open Go.RowKit Go.Proofs.YtophfoenaekfjaaW.PrintWords Go.Proofs.YtophfoenaekfjaaW.PrintLast Go.Proofs.YtophfoenaekfjaaW.PrintMore Go.Proofs.Ytophfoenaekfjaa.PSnapEncodes
set_option linter.unusedVariables false
set_option linter.unusedSimpArgs false

/-- The copies of the entries and the operation. -/
structure DoneC (w1 : World) (l : List S72) (k : Int) (n a b : List Int) (num : Int) (v5 v6 : Value) (wx : World) : Prop where
  mk ::
  out : ∃ A c g Y1 Y2 Y3 y1 y2 y3, v5 = .slice A l.length c ∧ v6 = .pointer (some ⟨g, 0, none⟩) ∧ l.length ≤ c ∧ Kd.C k72 wx A l.length l ∧ wx.heap[g]? = some (.cells #[.int .i64 k, .slice Y1 n.length y1, .slice Y2 a.length y2, .slice Y3 b.length y3, .int .i64 num] 63 (0, 0)) ∧ CB wx Y1 n ∧ CB wx Y2 a ∧ CB wx Y3 b ∧ Below w1.heap.size w1 wx
theorem c_new {w1 W : World} {l : List S72} {k : Int} {n a b : List Int} {num : Int} {N base : Nat} {ok : Nat → Prop} {v x1 x2 x3 : Value} (hS : Kd.S k72 72 W base ok v l) (h1 : OB W N x1 n) (h2 : OB W N x2 a) (h3 : OB W N x3 b) (hB : Below w1.heap.size w1 W) :
    DoneC w1 l k n a b num v (.pointer (some ⟨W.heap.size, 0, none⟩)) (W.alloc (.cells #[.int .i64 k, x1, x2, x3, .int .i64 num] 63)) := by
  have hn : Below W.heap.size W (W.alloc (.cells #[.int .i64 k, x1, x2, x3, .int .i64 num] 63)) := below_alloc (Below.refl _ _) _
  obtain ⟨A, c, rfl, hc, hC⟩ := Kd.S_reads hS
  obtain ⟨Y1, y1, rfl, _, i1⟩ := h1.reads
  obtain ⟨Y2, y2, rfl, _, i2⟩ := h2.reads
  obtain ⟨Y3, y3, rfl, _, i3⟩ := h3.reads
  exact ⟨A, c, _, Y1, Y2, Y3, y1, y2, y3, rfl, rfl, hc, Kd.C_below hC hn, blk_new _ _, Kd.C_below i1 hn, Kd.C_below i2 hn, Kd.C_below i3 hn, below_alloc hB _⟩
theorem c_fin {w1 W : World} {l : List S72} {k : Int} {n a b : List Int} {num : Int} {g N base : Nat} {ok : Nat → Prop} {v x1 x2 x3 : Value} (HZ : W.heap[g]? = some (.cells #[.int .i64 0, .slice none 0 0, .slice none 0 0, .slice none 0 0, .int .i64 0] 63 (0, 0))) (hg : w1.heap.size ≤ g) (hS : Kd.S k72 72 W base ok v l) (h1 : OB W N x1 n) (h2 : OB W N x2 a) (h3 : OB W N x3 b) (hB : Below w1.heap.size w1 W) :
    DoneC w1 l k n a b num v (.pointer (some ⟨g, 0, none⟩)) (((((W.setCell ⟨g, 0, none⟩ (.int .i64 k)).setCell ⟨g, 1, none⟩ x1).setCell ⟨g, 2, none⟩ x2).setCell ⟨g, 3, none⟩ x3).setCell ⟨g, 4, none⟩ (.int .i64 num)) := by
  have e0 := blk_set HZ 0 (.int .i64 k)
  have e1 := blk_set e0 1 x1
  have e2 := blk_set e1 2 x2
  have e3 := blk_set e2 3 x3
  obtain ⟨A, c, rfl, hc, hC⟩ := Kd.S_reads (Kd.S_set (Kd.S_set (Kd.S_set (Kd.S_set (Kd.S_set hS HZ (by decide) 0 (.int .i64 k)) e0 (by decide) 1 x1) e1 (by decide) 2 x2) e2 (by decide) 3 x3) e3 (by decide) 4 (.int .i64 num))
  have five : ∀ {N : Nat} {v : Value} {l : List Int}, OB W N v l → OB (((((W.setCell ⟨g, 0, none⟩ (.int .i64 k)).setCell ⟨g, 1, none⟩ x1).setCell ⟨g, 2, none⟩ x2).setCell ⟨g, 3, none⟩ x3).setCell ⟨g, 4, none⟩ (.int .i64 num)) N v l := fun h => ((((h.set63 HZ (by decide) _ _).set63 e0 (by decide) _ _).set63 e1 (by decide) _ _).set63 e2 (by decide) _ _).set63 e3 (by decide) _ _
  obtain ⟨Y1, y1, q1, _, i1⟩ := (five h1).reads
  obtain ⟨Y2, y2, q2, _, i2⟩ := (five h2).reads
  obtain ⟨Y3, y3, q3, _, i3⟩ := (five h3).reads
  have hb := put5 HZ (.int .i64 k) x1 x2 x3 (.int .i64 num)
  have hB' := below_set (below_set (below_set (below_set (below_set hB hg (j := 0) (v := .int .i64 k)) hg (j := 1) (v := x1)) hg (j := 2) (v := x2)) hg (j := 3) (v := x3)) hg (j := 4) (v := .int .i64 num)
  subst q1 q2 q3
  exact ⟨A, c, g, Y1, Y2, Y3, y1, y2, y3, rfl, rfl, hc, hC, hb, i1, i2, i3, hB'⟩
theorem z63_0 {W : World} {g : Nat} (h : W.heap[g]? = some (.cells #[.int .i64 0, .slice none 0 0, .slice none 0 0, .slice none 0 0, .int .i64 0] 63 (0, 0))) : W.cell? ⟨g, 0, none⟩ = some (.int .i64 0) := (blk_cell h 0).trans rfl
theorem z63_1 {W : World} {g : Nat} (h : W.heap[g]? = some (.cells #[.int .i64 0, .slice none 0 0, .slice none 0 0, .slice none 0 0, .int .i64 0] 63 (0, 0))) : W.cell? ⟨g, 1, none⟩ = some (.slice none 0 0) := (blk_cell h 1).trans rfl
theorem z63_2 {W : World} {g : Nat} (h : W.heap[g]? = some (.cells #[.int .i64 0, .slice none 0 0, .slice none 0 0, .slice none 0 0, .int .i64 0] 63 (0, 0))) : W.cell? ⟨g, 2, none⟩ = some (.slice none 0 0) := (blk_cell h 2).trans rfl
theorem z63_3 {W : World} {g : Nat} (h : W.heap[g]? = some (.cells #[.int .i64 0, .slice none 0 0, .slice none 0 0, .slice none 0 0, .int .i64 0] 63 (0, 0))) : W.cell? ⟨g, 3, none⟩ = some (.slice none 0 0) := (blk_cell h 3).trans rfl
theorem z63_4 {W : World} {g : Nat} (h : W.heap[g]? = some (.cells #[.int .i64 0, .slice none 0 0, .slice none 0 0, .slice none 0 0, .int .i64 0] 63 (0, 0))) : W.cell? ⟨g, 4, none⟩ = some (.int .i64 0) := (blk_cell h 4).trans rfl
theorem sameO_refl (k : Int) (n a b : List Int) (num : Int) : sameO k k n n a a b b num num := ⟨rfl, rfl, same_iff.2 rfl, same_iff.2 rfl, same_iff.2 rfl⟩
theorem sameE_refl (l : List S72) : sameE l l := ⟨rfl, fun _ _ _ => ⟨same_iff.2 rfl, same_iff.2 rfl⟩⟩
theorem sameRB_refl (a : Int) (l : List Int) : sameRB a a l l = true := sameRB_iff.2 ⟨rfl, same_iff.2 rfl⟩
set_option maxHeartbeats 4000000 in
set_option maxRecDepth 100000 in
theorem law_KvDoes (A0 : Option Addr) (c0 : Nat) (l : List S72) (k : Int) (A1 A2 A3 : Option Addr) (c1 c2 c3 : Nat) (n a b : List Int) (num : Int) (w : World) (hr0 : Kd.C k72 w A0 l.length l) (hc0 : l.length ≤ c0) (hsm : smallE l) (ak : -9223372036854775808 ≤ k ∧ k ≤ 9223372036854775807) (ah1 : CB w A1 n) (am1 : n.length ≤ c1) (as1 : n.length ≤ 1048576) (ah2 : CB w A2 a) (am2 : a.length ≤ c2) (as2 : a.length ≤ 1048576) (ah3 : CB w A3 b) (am3 : b.length ≤ c3) (as3 : b.length ≤ 1048576) :
    Calls Try.prog 7 #[.slice A0 l.length c0, .agg #[.int .i64 k, .slice A1 n.length c1, .slice A2 a.length c2, .slice A3 b.length c3, .int .i64 num]] w fun e w' => e = .returned (.bool true) ∧ Below w.heap.size w w' := by
  have HR0 := Aside0.mk hr0
  have HSM := Aside0.mk hsm
  have HSM2 := Aside0.mk (show l.length ≤ 1048576 ∧ ∀ x ∈ l, x.f0.length ≤ 1048576 ∧ x.f1.length ≤ 1048576 from hsm)
  have Hah1 := Aside0.mk ah1
  have Hah2 := Aside0.mk ah2
  have Hah3 := Aside0.mk ah3
  clear hr0 hsm ah1 ah2 ah3
  obtain ⟨g1, hg1⟩ : ∃ g, g = w.heap.size := ⟨_, rfl⟩
  obtain ⟨W0, hW0⟩ : ∃ W, W = w.alloc (.cells #[.int .i64 k, .slice A1 n.length c1, .slice A2 a.length c2, .slice A3 b.length c3, .int .i64 num] 63) := ⟨_, rfl⟩
  have HB := Aside0.mk (show Below w.heap.size w W0 from by rw [hW0]; exact below_alloc (Below.refl _ _) _)
  have HK1 := Aside0.mk (show W0.heap[g1]? = some (.cells #[.int .i64 k, .slice A1 n.length c1, .slice A2 a.length c2, .slice A3 b.length c3, .int .i64 num] 63 (0, 0)) from by rw [hW0, hg1]; exact blk_new _ _)
  go_enter Try.func7, Try.ntmps7
  go_wp2_with fail
  try rw [← hg1]
  rw [← hW0]
  clear hg1 hW0
  refine (kvAlive W0).mono ?_
  rintro e w1 ⟨rfl, hb⟩
  replace HB := Aside0.mk (below_step HB.out hb)
  replace HK1 := Aside0.mk (blk_below HK1.out hb)
  clear hb
  go_upto_region 3 with fail
  go_cut [5, 6] (fun u5 u6 wx => Aside0 (DoneC w1 l k n a b num u5 u6 wx))
  case first =>
    have HX := Aside0.mk (Below.refl w1.heap.size w1)
    have hz0 : w1.cell? ⟨g1, 0, none⟩ = some (.int .i64 k) := (blk_cell HK1.out 0).trans rfl
    have hz1 : w1.cell? ⟨g1, 1, none⟩ = some (.slice A1 n.length c1) := (blk_cell HK1.out 1).trans rfl
    have hz2 : w1.cell? ⟨g1, 2, none⟩ = some (.slice A2 a.length c2) := (blk_cell HK1.out 2).trans rfl
    have hz3 : w1.cell? ⟨g1, 3, none⟩ = some (.slice A3 b.length c3) := (blk_cell HK1.out 3).trans rfl
    have hz4 : w1.cell? ⟨g1, 4, none⟩ = some (.int .i64 num) := (blk_cell HK1.out 4).trans rfl
    have hr00 : (w1.alloc (.cells #[.int .i64 0, .slice none 0 0, .slice none 0 0, .slice none 0 0, .int .i64 0] 63)).cell? ⟨g1, 0, none⟩ = some (.int .i64 k) := (blk_cell (blk_below HK1.out (below_alloc HX.out _)) 0).trans rfl
    have hr01 : (w1.alloc (.cells #[.int .i64 0, .slice none 0 0, .slice none 0 0, .slice none 0 0, .int .i64 0] 63)).cell? ⟨g1, 1, none⟩ = some (.slice A1 n.length c1) := (blk_cell (blk_below HK1.out (below_alloc HX.out _)) 1).trans rfl
    have hr02 : (w1.alloc (.cells #[.int .i64 0, .slice none 0 0, .slice none 0 0, .slice none 0 0, .int .i64 0] 63)).cell? ⟨g1, 2, none⟩ = some (.slice A2 a.length c2) := (blk_cell (blk_below HK1.out (below_alloc HX.out _)) 2).trans rfl
    have hr03 : (w1.alloc (.cells #[.int .i64 0, .slice none 0 0, .slice none 0 0, .slice none 0 0, .int .i64 0] 63)).cell? ⟨g1, 3, none⟩ = some (.slice A3 b.length c3) := (blk_cell (blk_below HK1.out (below_alloc HX.out _)) 3).trans rfl
    have hr04 : (w1.alloc (.cells #[.int .i64 0, .slice none 0 0, .slice none 0 0, .slice none 0 0, .int .i64 0] 63)).cell? ⟨g1, 4, none⟩ = some (.int .i64 num) := (blk_cell (blk_below HK1.out (below_alloc HX.out _)) 4).trans rfl
    go_wp2_with fail
    go_region_law (first | (go_simp; go_at_call 37; ((with_reducible refine (ref07_Copy A0 c0 l _ (Kd.C_below HR0.out (below_step HB.out (by repeat (first | exact HX.out | apply below_alloc | apply below_drew | apply pw_below_drewN)))) hc0 HSM.out).mono ?_)); intro e wa hp; obtain ⟨va, he, ho, hb⟩ := hp.out; subst he; obtain ⟨Xa, xa, hv⟩ := Kd.S_slice ho; subst hv; replace HX := Aside0.mk (below_step (by repeat (first | exact HX.out | apply below_alloc | apply below_drew | apply pw_below_drewN)) hb); (try replace HSa := Aside0.mk (Kd.S_below HSa.out (below_step (by repeat (first | exact Below.refl _ _ | apply below_alloc | apply below_drew | apply pw_below_drewN)) hb))); (try replace HY1 := Aside0.mk (OB.below HY1.out (below_step (by repeat (first | exact Below.refl _ _ | apply below_alloc | apply below_drew | apply pw_below_drewN)) hb))); (try replace HY2 := Aside0.mk (OB.below HY2.out (below_step (by repeat (first | exact Below.refl _ _ | apply below_alloc | apply below_drew | apply pw_below_drewN)) hb))); (try replace HY3 := Aside0.mk (OB.below HY3.out (below_step (by repeat (first | exact Below.refl _ _ | apply below_alloc | apply below_drew | apply pw_below_drewN)) hb))); (first | replace HZ := Aside0.mk (blk_below HZ.out (below_step (by repeat (first | exact Below.refl _ _ | apply below_alloc | apply below_drew | apply pw_below_drewN)) hb)) | have HZ := Aside0.mk (blk_up (by repeat (first | exact Below.refl _ _ | apply below_drew | apply pw_below_drewN)) hb) | skip); (try have hs0 := z63_0 HZ.out); (try have hsf0 := blk_frozen HZ.out 0); (try have hs1 := z63_1 HZ.out); (try have hsf1 := blk_frozen HZ.out 1); (try have hs2 := z63_2 HZ.out); (try have hsf2 := blk_frozen HZ.out 2); (try have hs3 := z63_3 HZ.out); (try have hsf3 := blk_frozen HZ.out 3); (try have hs4 := z63_4 HZ.out); (try have hsf4 := blk_frozen HZ.out 4); have hxs_wa := HX.out.size; have hq00 : wa.cell? ⟨g1, 0, none⟩ = some (.int .i64 k) := (blk_cell (blk_below HK1.out HX.out) 0).trans rfl; have hq01 : wa.cell? ⟨g1, 1, none⟩ = some (.slice A1 n.length c1) := (blk_cell (blk_below HK1.out HX.out) 1).trans rfl; have hq02 : wa.cell? ⟨g1, 2, none⟩ = some (.slice A2 a.length c2) := (blk_cell (blk_below HK1.out HX.out) 2).trans rfl; have hq03 : wa.cell? ⟨g1, 3, none⟩ = some (.slice A3 b.length c3) := (blk_cell (blk_below HK1.out HX.out) 3).trans rfl; have hq04 : wa.cell? ⟨g1, 4, none⟩ = some (.int .i64 num) := (blk_cell (blk_below HK1.out HX.out) 4).trans rfl; have hr00 : (wa.alloc (.cells #[.int .i64 0, .slice none 0 0, .slice none 0 0, .slice none 0 0, .int .i64 0] 63)).cell? ⟨g1, 0, none⟩ = some (.int .i64 k) := (blk_cell (blk_below HK1.out (below_alloc HX.out _)) 0).trans rfl; have hr01 : (wa.alloc (.cells #[.int .i64 0, .slice none 0 0, .slice none 0 0, .slice none 0 0, .int .i64 0] 63)).cell? ⟨g1, 1, none⟩ = some (.slice A1 n.length c1) := (blk_cell (blk_below HK1.out (below_alloc HX.out _)) 1).trans rfl; have hr02 : (wa.alloc (.cells #[.int .i64 0, .slice none 0 0, .slice none 0 0, .slice none 0 0, .int .i64 0] 63)).cell? ⟨g1, 2, none⟩ = some (.slice A2 a.length c2) := (blk_cell (blk_below HK1.out (below_alloc HX.out _)) 2).trans rfl; have hr03 : (wa.alloc (.cells #[.int .i64 0, .slice none 0 0, .slice none 0 0, .slice none 0 0, .int .i64 0] 63)).cell? ⟨g1, 3, none⟩ = some (.slice A3 b.length c3) := (blk_cell (blk_below HK1.out (below_alloc HX.out _)) 3).trans rfl; have hr04 : (wa.alloc (.cells #[.int .i64 0, .slice none 0 0, .slice none 0 0, .slice none 0 0, .int .i64 0] 63)).cell? ⟨g1, 4, none⟩ = some (.int .i64 num) := (blk_cell (blk_below HK1.out (below_alloc HX.out _)) 4).trans rfl; have HSa := Aside0.mk ho; clear ho hb hp) | (go_simp; go_at_call 38; ((with_reducible refine (ref07_CopyOp k A1 A2 A3 c1 c2 c3 n a b num _ (Kd.C_below Hah1.out (below_step HB.out (by repeat (first | exact HX.out | apply below_alloc | apply below_drew | apply pw_below_drewN)))) (Kd.C_below Hah2.out (below_step HB.out (by repeat (first | exact HX.out | apply below_alloc | apply below_drew | apply pw_below_drewN)))) (Kd.C_below Hah3.out (below_step HB.out (by repeat (first | exact HX.out | apply below_alloc | apply below_drew | apply pw_below_drewN)))) as1 as2 as3).mono ?_)); intro e wb hp; obtain ⟨x1, x2, x3, he, o1, o2, o3, hb⟩ := hp.out; subst he; obtain ⟨Y1, y1, hv, i1, j1⟩ := o1.reads; subst hv; obtain ⟨Y2, y2, hv, i2, j2⟩ := o2.reads; subst hv; obtain ⟨Y3, y3, hv, i3, j3⟩ := o3.reads; subst hv; replace HX := Aside0.mk (below_step (by repeat (first | exact HX.out | apply below_alloc | apply below_drew | apply pw_below_drewN)) hb); (try replace HSa := Aside0.mk (Kd.S_below HSa.out (below_step (by repeat (first | exact Below.refl _ _ | apply below_alloc | apply below_drew | apply pw_below_drewN)) hb))); (try replace HY1 := Aside0.mk (OB.below HY1.out (below_step (by repeat (first | exact Below.refl _ _ | apply below_alloc | apply below_drew | apply pw_below_drewN)) hb))); (try replace HY2 := Aside0.mk (OB.below HY2.out (below_step (by repeat (first | exact Below.refl _ _ | apply below_alloc | apply below_drew | apply pw_below_drewN)) hb))); (try replace HY3 := Aside0.mk (OB.below HY3.out (below_step (by repeat (first | exact Below.refl _ _ | apply below_alloc | apply below_drew | apply pw_below_drewN)) hb))); (first | replace HZ := Aside0.mk (blk_below HZ.out (below_step (by repeat (first | exact Below.refl _ _ | apply below_alloc | apply below_drew | apply pw_below_drewN)) hb)) | have HZ := Aside0.mk (blk_up (by repeat (first | exact Below.refl _ _ | apply below_drew | apply pw_below_drewN)) hb) | skip); (try have hs0 := z63_0 HZ.out); (try have hsf0 := blk_frozen HZ.out 0); (try have hs1 := z63_1 HZ.out); (try have hsf1 := blk_frozen HZ.out 1); (try have hs2 := z63_2 HZ.out); (try have hsf2 := blk_frozen HZ.out 2); (try have hs3 := z63_3 HZ.out); (try have hsf3 := blk_frozen HZ.out 3); (try have hs4 := z63_4 HZ.out); (try have hsf4 := blk_frozen HZ.out 4); have hxs_wb := HX.out.size; have hq00 : wb.cell? ⟨g1, 0, none⟩ = some (.int .i64 k) := (blk_cell (blk_below HK1.out HX.out) 0).trans rfl; have hq01 : wb.cell? ⟨g1, 1, none⟩ = some (.slice A1 n.length c1) := (blk_cell (blk_below HK1.out HX.out) 1).trans rfl; have hq02 : wb.cell? ⟨g1, 2, none⟩ = some (.slice A2 a.length c2) := (blk_cell (blk_below HK1.out HX.out) 2).trans rfl; have hq03 : wb.cell? ⟨g1, 3, none⟩ = some (.slice A3 b.length c3) := (blk_cell (blk_below HK1.out HX.out) 3).trans rfl; have hq04 : wb.cell? ⟨g1, 4, none⟩ = some (.int .i64 num) := (blk_cell (blk_below HK1.out HX.out) 4).trans rfl; have hr00 : (wb.alloc (.cells #[.int .i64 0, .slice none 0 0, .slice none 0 0, .slice none 0 0, .int .i64 0] 63)).cell? ⟨g1, 0, none⟩ = some (.int .i64 k) := (blk_cell (blk_below HK1.out (below_alloc HX.out _)) 0).trans rfl; have hr01 : (wb.alloc (.cells #[.int .i64 0, .slice none 0 0, .slice none 0 0, .slice none 0 0, .int .i64 0] 63)).cell? ⟨g1, 1, none⟩ = some (.slice A1 n.length c1) := (blk_cell (blk_below HK1.out (below_alloc HX.out _)) 1).trans rfl; have hr02 : (wb.alloc (.cells #[.int .i64 0, .slice none 0 0, .slice none 0 0, .slice none 0 0, .int .i64 0] 63)).cell? ⟨g1, 2, none⟩ = some (.slice A2 a.length c2) := (blk_cell (blk_below HK1.out (below_alloc HX.out _)) 2).trans rfl; have hr03 : (wb.alloc (.cells #[.int .i64 0, .slice none 0 0, .slice none 0 0, .slice none 0 0, .int .i64 0] 63)).cell? ⟨g1, 3, none⟩ = some (.slice A3 b.length c3) := (blk_cell (blk_below HK1.out (below_alloc HX.out _)) 3).trans rfl; have hr04 : (wb.alloc (.cells #[.int .i64 0, .slice none 0 0, .slice none 0 0, .slice none 0 0, .int .i64 0] 63)).cell? ⟨g1, 4, none⟩ = some (.int .i64 num) := (blk_cell (blk_below HK1.out (below_alloc HX.out _)) 4).trans rfl; have HY1 := Aside0.mk o1; have HY2 := Aside0.mk o2; have HY3 := Aside0.mk o3; clear o1 o2 o3 hb j1 j2 j3 hp))
    all_goals
      go_wp2_with fail
      go_meet
      first
      | exact ⟨c_fin HZ.out (by first | exact Nat.le_refl _ | assumption) HSa.out HY1.out HY2.out HY3.out HX.out⟩
      | exact ⟨c_new HSa.out HY1.out HY2.out HY3.out HX.out⟩
  case rest =>
    rename World => w4
    obtain ⟨Xa, xa, g6, Y1, Y2, Y3, y1, y2, y3, hv1, hv2, hxa, hC, hK, i1, i2, i3, hb⟩ := hcut.out.out
    subst hv1
    subst hv2
    clear hcut
    replace HB := Aside0.mk (below_step HB.out hb)
    replace HK1 := Aside0.mk (blk_below HK1.out hb)
    clear hb
    have HB4 := HB
    have HCa := Aside0.mk hC
    have HY1 := Aside0.mk i1
    have HY2 := Aside0.mk i2
    have HY3 := Aside0.mk i3
    have HK14 := HK1
    have HK6 := Aside0.mk hK
    clear hC hK i1 i2 i3 HB HK1
    have HB := Aside0.mk (Below.refl w4.heap.size w4)
    obtain ⟨r, hr⟩ : ∃ r, kvDo l k n a b num = r := ⟨_, rfl⟩
    have HE := Aside0.mk hr
    clear hr
    have hz0 : w4.cell? ⟨g6, 0, none⟩ = some (.int .i64 k) := (blk_cell HK6.out 0).trans rfl
    have hz1 : w4.cell? ⟨g6, 1, none⟩ = some (.slice Y1 n.length y1) := (blk_cell HK6.out 1).trans rfl
    have hz2 : w4.cell? ⟨g6, 2, none⟩ = some (.slice Y2 a.length y2) := (blk_cell HK6.out 2).trans rfl
    have hz3 : w4.cell? ⟨g6, 3, none⟩ = some (.slice Y3 b.length y3) := (blk_cell HK6.out 3).trans rfl
    have hz4 : w4.cell? ⟨g6, 4, none⟩ = some (.int .i64 num) := (blk_cell HK6.out 4).trans rfl
    go_wp2_with fail
    refine (kv_Do Xa Y1 Y2 Y3 xa y1 y2 y3 l k n a b num w4 HCa.out hxa HY1.out HY2.out HY3.out HSM2.out ak).mono ?_
    intro e w5 hp
    rw [HE.out] at hp
    obtain ⟨vr, rv, N, he, hN, hS, hO, hb⟩ := hp.out
    subst he
    obtain ⟨X7, x7, go, cur, hv, hRW⟩ := S_rows hS
    subst hv
    obtain ⟨_, hc7, hr7⟩ := Kd.S_reads' hS
    obtain ⟨V1, u1, hv, hVm, hVW⟩ := row_u8 hO.out
    subst hv
    obtain ⟨_, hv1, hrv⟩ := Kd.R_reads' hO.out
    have HRW := Aside0.mk hRW
    have HVW := Aside0.mk (show r.2.f1.length = 0 ∨ ∃ b, V1 = some ⟨b, 0, none⟩ ∧ w4.heap.size ≤ b ∧ U8 w5 b r.2.f1.length from hVW.imp id (fun ⟨b, h1, h2, h3⟩ => ⟨b, h1, Nat.le_trans hN h2, h3⟩))
    clear hS hO hp hN hRW hVW
    clear hz0 hz1 hz2 hz3 hz4
    replace HB := Aside0.mk (below_step HB.out hb)
    clear hb
    have HC7 := Aside0.mk (hr7)
    have HV1 := Aside0.mk (hrv)
    clear hr7 hrv
    have HB5 := HB
    have HB5w := Aside0.mk (Below.refl w5.heap.size w5)
    obtain ⟨q1, hq1⟩ : ∃ g, g = w5.heap.size := ⟨_, rfl⟩
    obtain ⟨w6, hw6⟩ : ∃ W, W = w5.alloc (.cells #[.int .i64 r.2.f0, .slice V1 r.2.f1.length u1] 45) := ⟨_, rfl⟩
    have HX_w6 := Aside0.mk (show Below w5.heap.size w5 w6 by rw [hw6]; exact below_alloc (Below.refl _ _) _)
    replace HB := Aside0.mk (below_step HB.out HX_w6.out)
    replace HC7 := Aside0.mk (Kd.C_below HC7.out HX_w6.out)
    replace HV1 := Aside0.mk (Kd.C_below HV1.out HX_w6.out)
    replace HB5w := Aside0.mk (below_step HB5w.out HX_w6.out)
    clear HX_w6
    have HK_q1 := Aside0.mk (show w6.heap[q1]? = some (.cells #[.int .i64 r.2.f0, .slice V1 r.2.f1.length u1] 45 (0, 0)) by rw [hw6, hq1]; exact blk_new _ _)
    have HG_q1 := Aside0.mk (show w5.heap.size ≤ q1 from Nat.le_of_eq hq1.symm)
    have hl_q10 : (w5.alloc (.cells #[.int .i64 r.2.f0, .slice V1 r.2.f1.length u1] 45)).cell? ⟨w5.heap.size, 0, none⟩ = some (.int .i64 r.2.f0) := by rw [← hw6, ← hq1]; exact (blk_cell HK_q1.out 0).trans rfl
    have hl_q11 : (w5.alloc (.cells #[.int .i64 r.2.f0, .slice V1 r.2.f1.length u1] 45)).cell? ⟨w5.heap.size, 1, none⟩ = some (.slice V1 r.2.f1.length u1) := by rw [← hw6, ← hq1]; exact (blk_cell HK_q1.out 1).trans rfl
    go_upto_region 5 with fail
    try rw [← hq1]
    rw [← hw6]
    clear hl_q10 hl_q11
    clear hq1 hw6
    have HM := Aside0.mk (show Mu w4 go r.1.length cur q1 #[.int .i64 r.2.f0, .slice V1 r.2.f1.length u1] (RpE r.1.length cur (.slice V1 r.2.f1.length u1)) w6 from mu_start HB5.out HRW.out HVW.out HB5w.out HK_q1.out)
    clear HB5w
    have hz0 : w6.cell? ⟨g1, 0, none⟩ = some (.int .i64 k) := (blk_cell (blk_below HK14.out HB.out) 0).trans rfl
    have hz1 : w6.cell? ⟨g1, 1, none⟩ = some (.slice A1 n.length c1) := (blk_cell (blk_below HK14.out HB.out) 1).trans rfl
    have hz2 : w6.cell? ⟨g1, 2, none⟩ = some (.slice A2 a.length c2) := (blk_cell (blk_below HK14.out HB.out) 2).trans rfl
    have hz3 : w6.cell? ⟨g1, 3, none⟩ = some (.slice A3 b.length c3) := (blk_cell (blk_below HK14.out HB.out) 3).trans rfl
    have hz4 : w6.cell? ⟨g1, 4, none⟩ = some (.int .i64 num) := (blk_cell (blk_below HK14.out HB.out) 4).trans rfl
    go_wp2_with fail
    refine (ref07_Do A0 A1 A2 A3 c0 c1 c2 c3 l k n a b num w6 (Kd.C_below HR0.out (below_step HB4.out HB.out)) hc0 (Kd.C_below Hah1.out (below_step HB4.out HB.out)) am1 (Kd.C_below Hah2.out (below_step HB4.out HB.out)) am2 (Kd.C_below Hah3.out (below_step HB4.out HB.out)) am3 HSM2.out.1 ak).mono ?_
    intro e w7 hp
    rw [HE.out] at hp
    obtain ⟨X9, x9, V2, u2, he, hc9, hC, hV, hb⟩ := hp.out
    subst he
    clear hp
    clear hz0 hz1 hz2 hz3 hz4
    replace HB := Aside0.mk (below_step HB.out hb)
    replace HC7 := Aside0.mk (Kd.C_below HC7.out hb)
    replace HV1 := Aside0.mk (Kd.C_below HV1.out hb)
    replace HK_q1 := Aside0.mk (blk_below HK_q1.out hb)
    replace HM := Aside0.mk (Mu.below HM.out hb)
    clear hb
    have HC9 := Aside0.mk (hC)
    have HV2 := Aside0.mk (hV)
    clear hC hV
    obtain ⟨q2, hq2⟩ : ∃ g, g = w7.heap.size := ⟨_, rfl⟩
    obtain ⟨w8, hw8⟩ : ∃ W, W = w7.alloc (.cells #[.int .i64 r.2.f0, .slice V2 r.2.f1.length u2] 45) := ⟨_, rfl⟩
    have HX_w8 := Aside0.mk (show Below w7.heap.size w7 w8 by rw [hw8]; exact below_alloc (Below.refl _ _) _)
    replace HB := Aside0.mk (below_step HB.out HX_w8.out)
    replace HC7 := Aside0.mk (Kd.C_below HC7.out HX_w8.out)
    replace HV1 := Aside0.mk (Kd.C_below HV1.out HX_w8.out)
    replace HK_q1 := Aside0.mk (blk_below HK_q1.out HX_w8.out)
    replace HM := Aside0.mk (Mu.below HM.out HX_w8.out)
    replace HC9 := Aside0.mk (Kd.C_below HC9.out HX_w8.out)
    replace HV2 := Aside0.mk (Kd.C_below HV2.out HX_w8.out)
    clear HX_w8
    have HK_q2 := Aside0.mk (show w8.heap[q2]? = some (.cells #[.int .i64 r.2.f0, .slice V2 r.2.f1.length u2] 45 (0, 0)) by rw [hw8, hq2]; exact blk_new _ _)
    have HG_q2 := Aside0.mk (show w7.heap.size ≤ q2 from Nat.le_of_eq hq2.symm)
    have hl_q20 : (w7.alloc (.cells #[.int .i64 r.2.f0, .slice V2 r.2.f1.length u2] 45)).cell? ⟨w7.heap.size, 0, none⟩ = some (.int .i64 r.2.f0) := by rw [← hw8, ← hq2]; exact (blk_cell HK_q2.out 0).trans rfl
    have hl_q21 : (w7.alloc (.cells #[.int .i64 r.2.f0, .slice V2 r.2.f1.length u2] 45)).cell? ⟨w7.heap.size, 1, none⟩ = some (.slice V2 r.2.f1.length u2) := by rw [← hw8, ← hq2]; exact (blk_cell HK_q2.out 1).trans rfl
    go_upto_region 6 with fail
    try rw [← hq2]
    rw [← hw8]
    clear hl_q20 hl_q21
    clear hq2 hw8
    go_wp2_with fail
    refine (kv_Right Xa xa l w8 (Kd.C_below HCa.out HB.out) hxa).mono ?_
    rintro e w9 ⟨b1, rfl, hb, hi⟩
    have HI := Aside0.mk hi
    clear hi
    replace HB := Aside0.mk (below_step HB.out hb)
    replace HC7 := Aside0.mk (Kd.C_below HC7.out hb)
    replace HV1 := Aside0.mk (Kd.C_below HV1.out hb)
    replace HK_q1 := Aside0.mk (blk_below HK_q1.out hb)
    replace HM := Aside0.mk (Mu.below HM.out hb)
    replace HC9 := Aside0.mk (Kd.C_below HC9.out hb)
    replace HV2 := Aside0.mk (Kd.C_below HV2.out hb)
    replace HK_q2 := Aside0.mk (blk_below HK_q2.out hb)
    clear hb
    go_wp2_with fail
    refine (ref07_Right A0 c0 l w9 (Kd.C_below HR0.out (below_step HB4.out HB.out)) hc0).mono ?_
    rintro e w10 ⟨b2, rfl, hb, hi⟩
    obtain rfl : b1 = b2 := Bool.eq_iff_iff.2 (HI.out.trans hi.symm)
    have hbb : (b1 != b1) = false := by simp
    clear hi HI
    replace HB := Aside0.mk (below_step HB.out hb)
    replace HC7 := Aside0.mk (Kd.C_below HC7.out hb)
    replace HV1 := Aside0.mk (Kd.C_below HV1.out hb)
    replace HK_q1 := Aside0.mk (blk_below HK_q1.out hb)
    replace HM := Aside0.mk (Mu.below HM.out hb)
    replace HC9 := Aside0.mk (Kd.C_below HC9.out hb)
    replace HV2 := Aside0.mk (Kd.C_below HV2.out hb)
    replace HK_q2 := Aside0.mk (blk_below HK_q2.out hb)
    clear hb
    go_wp2_with fail
    refine (ref07_Same X7 X9 x7 x9 r.1 r.1 w10 HC7.out HC9.out).mono ?_
    rintro e w11 ⟨b3, rfl, hb, hi⟩
    obtain rfl : b3 = true := hi.2 (sameE_refl _)
    clear hi
    replace HB := Aside0.mk (below_step HB.out hb)
    replace HC7 := Aside0.mk (Kd.C_below HC7.out hb)
    replace HV1 := Aside0.mk (Kd.C_below HV1.out hb)
    replace HK_q1 := Aside0.mk (blk_below HK_q1.out hb)
    replace HM := Aside0.mk (Mu.below HM.out hb)
    replace HC9 := Aside0.mk (Kd.C_below HC9.out hb)
    replace HV2 := Aside0.mk (Kd.C_below HV2.out hb)
    replace HK_q2 := Aside0.mk (blk_below HK_q2.out hb)
    clear hb
    have hx0 : w11.cell? ⟨q1, 0, none⟩ = some (.int .i64 r.2.f0) := (blk_cell HK_q1.out 0).trans rfl
    have hx1 : w11.cell? ⟨q1, 1, none⟩ = some (.slice V1 r.2.f1.length u1) := (blk_cell HK_q1.out 1).trans rfl
    have hy0 : w11.cell? ⟨q2, 0, none⟩ = some (.int .i64 r.2.f0) := (blk_cell HK_q2.out 0).trans rfl
    have hy1 : w11.cell? ⟨q2, 1, none⟩ = some (.slice V2 r.2.f1.length u2) := (blk_cell HK_q2.out 1).trans rfl
    go_wp2_with fail
    refine (ref07_SameResult r.2.f0 r.2.f0 V1 V2 u1 u2 r.2.f1 r.2.f1 w11 HV1.out HV2.out).mono ?_
    rintro e w12 ⟨he, hb⟩
    rw [sameRB_refl] at he
    subst he
    clear hx0 hx1 hy0 hy1
    replace HB := Aside0.mk (below_step HB.out hb)
    replace HC7 := Aside0.mk (Kd.C_below HC7.out hb)
    replace HV1 := Aside0.mk (Kd.C_below HV1.out hb)
    replace HK_q1 := Aside0.mk (blk_below HK_q1.out hb)
    replace HM := Aside0.mk (Mu.below HM.out hb)
    replace HC9 := Aside0.mk (Kd.C_below HC9.out hb)
    replace HV2 := Aside0.mk (Kd.C_below HV2.out hb)
    replace HK_q2 := Aside0.mk (blk_below HK_q2.out hb)
    clear hb
    have hm1 := HC7.out.2.1
    clear HC7 HV1 HC9 HV2 HK_q1 HK_q2 HB HB5
    go_wp2_with fail
    go_loopw [51] (fun v wr => ∃ x : Int, v = .int .i64 x ∧ 0 ≤ x ∧ x ≤ r.1.length ∧ Aside0 (Mu w4 go r.1.length cur q1 #[.int .i64 r.2.f0, .slice V1 r.2.f1.length u1] (RpE r.1.length cur (.slice V1 r.2.f1.length u1)) wr)) (fun v _ => r.1.length - (intOf v).toNat)
    case atStart => exact ⟨0, rfl, by omega, by omega, HM⟩
    case round =>
      clear HM
      obtain ⟨x, rfl, h0, hi, HM1⟩ := hrel
      by_cases hlt : x < r.1.length
      · obtain ⟨hA, A', n', c', hcu, hnm, hrow⟩ := HM1.out.row HRW.out x.toNat (by omega)
        subst hA
        have HROW := Aside0.mk hrow
        have HCU := Aside0.mk hcu
        have hc := HM1.out.at1 (by omega) hcu
        clear hrow hcu
        go_wp2_with fail
        go_loopw [60] (fun v wi => ∃ y : Int, v = .int .i64 y ∧ 0 ≤ y ∧ y ≤ n' ∧ Aside0 (Mu w4 go r.1.length cur q1 #[.int .i64 r.2.f0, .slice V1 r.2.f1.length u1] (RpE r.1.length cur (.slice V1 r.2.f1.length u1)) wi)) (fun v _ => n' - (intOf v).toNat)
        case atStart => exact ⟨0, rfl, by omega, by omega, HM1⟩
        case round =>
          clear hc HM1
          obtain ⟨y, rfl, k0, ki, HM2⟩ := hrel
          have hc := HM2.out.at1 (by omega) HCU.out
          by_cases hlt2 : y < n'
          · obtain ⟨b, hb, hp⟩ := HROW.out.resolve_left (by omega)
            subst hb
            obtain ⟨z, hz, hzf⟩ := (HM2.out.rows b n' hp).2.cell (j := y.toNat) (by omega)
            have HP := Aside0.mk hp
            clear hp
            go_wp2_with fail
            go_roundw
            case rel => exact ⟨y + 1, by go_num, by omega, by omega, ⟨HM2.out.store HP.out (by omega) _⟩⟩
            case measure => simp [intOf]; omega
          · go_wp2_with fail
            go_roundw
            case rel => exact ⟨x + 1, by go_num, by omega, by omega, HM2⟩
            case measure => simp [intOf]; omega
      · have hx1 : wr.cell? ⟨q1, 1, none⟩ = some (.slice V1 r.2.f1.length u1) := (blk_cell HM1.out.x 1).trans rfl
        go_wp2_with fail
        go_loopw [78] (fun v wi => ∃ y : Int, v = .int .i64 y ∧ 0 ≤ y ∧ y ≤ r.2.f1.length ∧ Aside0 (Mu w4 go r.1.length cur q1 #[.int .i64 r.2.f0, .slice V1 r.2.f1.length u1] (RpE r.1.length cur (.slice V1 r.2.f1.length u1)) wi)) (fun v _ => r.2.f1.length - (intOf v).toNat)
        case atStart => exact ⟨0, rfl, by omega, by omega, HM1⟩
        case round =>
          clear hx1 HM1
          obtain ⟨y, rfl, k0, ki, HM2⟩ := hrel
          have hx1 : wr.cell? ⟨q1, 1, none⟩ = some (.slice V1 r.2.f1.length u1) := (blk_cell HM2.out.x 1).trans rfl
          by_cases hlt2 : y < r.2.f1.length
          · obtain ⟨b, hb, _, _⟩ := HVW.out.resolve_left (by omega)
            have HP := Aside0.mk (show (RpE r.1.length cur (.slice V1 r.2.f1.length u1)) b r.2.f1.length from ⟨by omega, .inr ⟨u1, by rw [hb]⟩⟩)
            subst hb
            obtain ⟨z, hz, hzf⟩ := (HM2.out.rows b _ HP.out).2.cell (j := y.toNat) (by omega)
            go_wp2_with fail
            go_roundw
            case rel => exact ⟨y + 1, by go_num, by omega, by omega, ⟨HM2.out.store HP.out (by omega) _⟩⟩
            case measure => simp [intOf]; omega
          · have HB := Aside0.mk HM2.out.bel
            go_wp2_with fail
            refine (ref07_Same Xa A0 xa c0 l l wr (Kd.C_below HCa.out HB.out) (Kd.C_below HR0.out (below_step HB4.out HB.out))).mono ?_
            rintro e w13 ⟨b3, rfl, hb, hi⟩
            obtain rfl : b3 = true := hi.2 (sameE_refl _)
            clear hi
            replace HB := Aside0.mk (below_step HB.out hb)
            clear hb
            have hz0 : w13.cell? ⟨g1, 0, none⟩ = some (.int .i64 k) := (blk_cell (blk_below HK14.out HB.out) 0).trans rfl
            have hz1 : w13.cell? ⟨g1, 1, none⟩ = some (.slice A1 n.length c1) := (blk_cell (blk_below HK14.out HB.out) 1).trans rfl
            have hz2 : w13.cell? ⟨g1, 2, none⟩ = some (.slice A2 a.length c2) := (blk_cell (blk_below HK14.out HB.out) 2).trans rfl
            have hz3 : w13.cell? ⟨g1, 3, none⟩ = some (.slice A3 b.length c3) := (blk_cell (blk_below HK14.out HB.out) 3).trans rfl
            have hz4 : w13.cell? ⟨g1, 4, none⟩ = some (.int .i64 num) := (blk_cell (blk_below HK14.out HB.out) 4).trans rfl
            have hy0 : w13.cell? ⟨g6, 0, none⟩ = some (.int .i64 k) := (blk_cell (blk_below HK6.out HB.out) 0).trans rfl
            have hy1 : w13.cell? ⟨g6, 1, none⟩ = some (.slice Y1 n.length y1) := (blk_cell (blk_below HK6.out HB.out) 1).trans rfl
            have hy2 : w13.cell? ⟨g6, 2, none⟩ = some (.slice Y2 a.length y2) := (blk_cell (blk_below HK6.out HB.out) 2).trans rfl
            have hy3 : w13.cell? ⟨g6, 3, none⟩ = some (.slice Y3 b.length y3) := (blk_cell (blk_below HK6.out HB.out) 3).trans rfl
            have hy4 : w13.cell? ⟨g6, 4, none⟩ = some (.int .i64 num) := (blk_cell (blk_below HK6.out HB.out) 4).trans rfl
            go_wp2_with fail
            refine (ref07_SameOp k k Y1 Y2 Y3 A1 A2 A3 y1 y2 y3 c1 c2 c3 n n a a b b num num w13 (Kd.C_below HY1.out HB.out) (Kd.C_below HY2.out HB.out) (Kd.C_below HY3.out HB.out) (Kd.C_below Hah1.out (below_step HB4.out HB.out)) (Kd.C_below Hah2.out (below_step HB4.out HB.out)) (Kd.C_below Hah3.out (below_step HB4.out HB.out))).mono ?_
            rintro e w14 ⟨b4, rfl, hb, hi⟩
            obtain rfl : b4 = true := hi.2 (sameO_refl _ _ _ _ _)
            clear hi
            clear hz0 hy0
            clear hz1 hy1
            clear hz2 hy2
            clear hz3 hy3
            clear hz4 hy4
            replace HB := Aside0.mk (below_step HB.out hb)
            clear hb
            go_wp2_with fail
            go_ret
            exact ⟨rfl, below_step HB4.out HB.out⟩

end Go.Proofs.Ytophfoenaekfjaa

