/- Parts of the proof of SnapEncodes: snap.Encode's first closure. snap.Encode's second closure. snap.Encode makes a right state's bytes, and refuses any other; no condition. The reader's number and text. What lies in the blocks while snap.Decode reads. -/
import Derived.Test.YtophfoenaekfjaaSnapEncodesm3
import Derived.OneCell
import Derived.Deep.RegionLaw
import Derived.Outline
import Derived.Deep.RegionHeld3
namespace Go.Proofs.Ytophfoenaekfjaa
open Go.RowKit Go.Proofs.YtophfoenaekfjaaW.PrintWords Go.Proofs.YtophfoenaekfjaaW.PrintLast Go.Proofs.YtophfoenaekfjaaW.PrintMore Go.Proofs.Ytophfoenaekfjaa.PSnapEncodes
set_option linter.unusedVariables false
set_option linter.unusedSimpArgs false

/-- Blocks of S alone may have changed, and new ones were made. -/
structure Ch (w w' : World) (S : Nat → Prop) : Prop where
  os : w'.os = w.os
  tape : w'.tape = w.tape
  output : w'.output = w.output
  size : w.heap.size ≤ w'.heap.size
  block : ∀ k, k < w.heap.size → ¬ S k → w'.heap[k]? = w.heap[k]?
section
variable {w w1 w2 : World} {S T : Nat → Prop} {row : Option Nat}
theorem Ch.refl (w : World) (S : Nat → Prop) : Ch w w S := ⟨rfl, rfl, rfl, Nat.le_refl _, fun _ _ _ => rfl⟩
theorem Ch.trans (h : Ch w w1 S) (k : Ch w1 w2 T) (hT : ∀ i, T i → S i ∨ w.heap.size ≤ i) : Ch w w2 S :=
  ⟨k.os.trans h.os, k.tape.trans h.tape, k.output.trans h.output, Nat.le_trans h.size k.size, fun i hi hs =>
    (k.block i (Nat.lt_of_lt_of_le hi h.size) (fun ht => (hT i ht).elim hs (fun h2 => by omega))).trans (h.block i hi hs)⟩
theorem Ch.below (h : Ch w w1 S) (k : Below w1.heap.size w1 w2) : Ch w w2 S := h.trans (T := fun _ => False) ⟨k.os, k.tape, k.output, k.size, fun i hi _ => k.block i hi⟩ (fun _ h => h.elim)
theorem Ch.grown (h : Ch w w1 S) (k : w1.grownBy w2 row) (hr : ∀ i, some i = row → S i ∨ w.heap.size ≤ i) : Ch w w2 S := h.trans (T := fun i => some i = row) ⟨k.os, k.tape, k.output, k.size, fun i hi hn => k.block i hi hn⟩ hr
theorem Ch.setCell (h : Ch w w1 S) (a : Addr) (u : Value) (ha : S a.block ∨ w.heap.size ≤ a.block) : Ch w (w1.setCell a u) S :=
  h.trans (T := fun i => i = a.block) ⟨rfl, rfl, rfl, by simp [World.setCell], fun i _ hn => Below.heap_setCell _ _ _ _ hn⟩ (fun i hi => by rw [hi]; exact ha)
theorem Ch.to_below {B : Nat} (h : Ch w w1 S) (hS : ∀ i, S i → B ≤ i) (hB : B ≤ w.heap.size) : Below B w w1 := ⟨h.os, h.tape, h.output, h.size, fun i hi => h.block i (by omega) (fun hs => by have := hS i hs; omega)⟩
theorem Ch.cell (h : Ch w w1 S) {a : Addr} {v : Value} (hc : w.cell? a = some v) (hn : ¬ S a.block) : w1.cell? a = some v :=
  (World.cell?_of_block (h.block a.block (World.block_lt_of_cell? w a hc) hn)).trans hc
theorem Ch.blk (h : Ch w w1 S) {g : Nat} {o : Obj} (hc : w.heap[g]? = some o) (hn : ¬ S g) : w1.heap[g]? = some o := (h.block g (Array.getElem?_eq_some_iff.1 hc).1 hn).trans hc
theorem OB.ch {base : Nat} {v : Value} {l : List Int} (h : OB w base v l) (hc : Ch w w1 S) (hn : ∀ k, v.ownBlock = some k → ¬ S k) : OB w1 base v l :=
  ⟨Kd.R_mono (Kd.R_step (Kd.R_tight rfl h.out) (fun k hk hlt => hc.block k hlt (hn k hk.symm))) (fun _ _ => trivial)⟩
/-- A row of bytes is none of a block of another type. -/
theorem OB.ne_blk {base : Nat} {v : Value} {l : List Int} (h : OB w base v l) {g t : Nat} {cs : Array Value} (hb : w.heap[g]? = some (.cells cs t (0, 0))) (ht : 5 ≠ t) : ∀ k, v.ownBlock = some k → k ≠ g := fun k hk e => Kd.R_ne h.out hb ht (by rw [hk, e])
end
/-- What a closure that appends to the captured row comes to: gb is the row's variable. -/
structure PostCl (w : World) (gb base : Nat) (u : Value) (l : List Int) (e : Ending) (w' : World) : Prop where
  mk ::
  out : ∃ v, e = .returned (.tuple #[]) ∧ OB w' base v l ∧ w'.heap[gb]? = some (.cells #[v] 29 (0, 0)) ∧ Ch w w' (fun k => k = gb ∨ some k = u.ownBlock) ∧ (v.ownBlock = u.ownBlock ∨ ∃ b, v.ownBlock = some b ∧ w.heap.size ≤ b)
theorem OB.named {w : World} {base : Nat} {v : Value} {l : List Int} (h : OB w base v l) : ∃ ys, l = ys ∧ OB w base v ys := ⟨l, rfl, h⟩

theorem at_own {w : World} {u v : Value} (hat : v.ownBlock = u.ownBlock ∨ ∃ b, v.ownBlock = some b ∧ w.heap.size ≤ b) {i : Nat} {gb : Nat} (hi : some i = v.ownBlock) : (i = gb ∨ some i = u.ownBlock) ∨ w.heap.size ≤ i := by
  rcases hat with h | ⟨b, h, hb⟩
  · exact .inl (.inr (by rw [hi, h]))
  · rw [h] at hi
    injection hi with hi
    exact .inr (by omega)
set_option maxHeartbeats 4000000 in
set_option maxRecDepth 100000 in
theorem encode_num (gb base : Nat) (u : Value) (l0 : List Int) (A : Option Addr) (c : Nat) (l : List Int) (w : World) (hB : base ≤ w.heap.size) (ho : OB w base u l0) (hb : w.heap[gb]? = some (.cells #[u] 29 (0, 0))) (hr : (Kd.int .i64).C w A l.length l) (hl : l.length ≤ 1000) (hx : ∀ x ∈ l, okInt x) (hu : ∀ ad, A = some ad → ad.block ≠ gb ∧ some ad.block ≠ u.ownBlock) (hl0 : l0.length ≤ 137438953472) :
    Calls Try.prog 66 #[.slice A l.length c, .pointer (some ⟨gb, 0, none⟩)] w (PostCl w gb base u (l0 ++ nat l)) := by
  have HL := Aside0.mk hl
  have HL0 := Aside0.mk hl0
  have HX := Aside0.mk hx
  have HR := Aside0.mk hr
  have HU := Aside0.mk hu
  have HO := Aside0.mk ho
  have HBK := Aside0.mk hb
  clear hx hr hu ho hb
  go_enter Try.func66, Try.ntmps66
  go_wp2
  go_loopw [9] (fun v9 wr => ∃ (x : Int) (v : Value), v9 = .int .i64 x ∧ 0 ≤ x ∧ x ≤ l.length ∧ Aside0 (OB wr base v (l0 ++ nat (l.take x.toNat))) ∧ Aside0 (wr.heap[gb]? = some (.cells #[v] 29 (0, 0))) ∧ Aside0 (Ch w wr (fun k => k = gb ∨ some k = u.ownBlock)) ∧ Aside0 (v.ownBlock = u.ownBlock ∨ ∃ b, v.ownBlock = some b ∧ w.heap.size ≤ b)) (fun v9 _ => l.length - (intOf v9).toNat)
  case atStart => exact ⟨0, u, rfl, by omega, by omega, ⟨by simpa [nat] using HO.out⟩, HBK, ⟨Ch.refl _ _⟩, ⟨.inl rfl⟩⟩
  case round =>
    clear HO HBK
    obtain ⟨x, v, rfl, h0, hi, HO, HBK, HCH, HT⟩ := hrel
    have HS : base ≤ wr.heap.size := Nat.le_trans hB HCH.out.size
    by_cases hlt : x < l.length
    · obtain ⟨ad, e1, hx0⟩ := Kd.at_int HR.out x h0 hlt
      subst e1
      have hne := HU.out ad rfl
      replace hx0 := HCH.out.cell hx0 (by rw [add_block]; exact fun h => h.elim hne.1 hne.2)
      have HI := Aside0.mk (HX.out _ (rd_mem h0 hlt))
      clear hne
      go_wp2_with fail
      refine (octet_Int0 (rd l x) _ HI.out).mono ?_
      rintro e w1 ⟨v, rfl, ho, hb⟩
      obtain ⟨b1, hbs⟩ : ∃ bs : List Int, vint (rd l x).toNat = bs := ⟨_, rfl⟩
      rw [hbs] at ho
      have HE1 := Aside0.mk hbs
      clear hbs
      obtain ⟨A1, c1, rfl, hc, hr1⟩ := ho.reads
      have HOwn1 := Aside0.mk ho
      have HR1 := Aside0.mk hr1
      have Hb1 := Aside0.mk hb
      clear ho hr1 hb hc
      have HO1 := Aside0.mk (HO.out.below Hb1.out)
      have HBK1 := Aside0.mk (blk_below HBK.out Hb1.out)
      have hc1 := cell_of_one HBK1.out
      have hf1 := free_of_one HBK1.out
      have HS1 : base ≤ w1.heap.size := Nat.le_trans HS Hb1.out.size
      have HCH1 := Aside0.mk (HCH.out.below Hb1.out)
      have HT1 := Aside0.mk HT.out
      have HNB := Aside0.mk (show some gb ≠ v.ownBlock from fun e => HO1.out.ne_blk HBK1.out (by decide) gb e.symm rfl)
      have HL2 := Aside0.mk (show b1.length ≤ 5 by rw [← HE1.out]; exact vint_len5 _ (by have := HI.out; unfold okInt at this; omega))
      have HL3 := Aside0.mk (nat_take_len (n := x.toNat) HX.out)
      clear HO HCH HT HBK
      go_wp2_with (first | ((with_reducible refine gate_builtin (b := .append) (xs := #[.tmp 18, .tmp 19]) rfl ?_); at_builtin; refine ob_append rfl (.tmp 18) (.tmp 19) rfl rfl rfl HO1.out HR1.out ?hb ?hl ?_; (case hb => exact HS1); (case hl => exact (by have := HL.out; have := HL0.out; have := HL2.out; have := HL3.out; rw [List.length_append]; omega)); intro v2 w2 ho hg hat; obtain ⟨ys, hys, ho⟩ := ho.named; obtain ⟨A2, c2, rfl, hcc, hrr⟩ := ho.reads; have HY := Aside0.mk hys; have hcb := blk_grown HBK1.out hg (HNB.out); have hc2 := cell_of_one hcb; have hf2 := free_of_one hcb; have HBK2 := Aside0.mk hcb; have HO2 := Aside0.mk ho; have HCH2 := Aside0.mk (HCH1.out.grown hg (fun i hi => at_own HT1.out hi)); have HT2 := Aside0.mk (at_chain HCH1.out.size HT1.out hat); clear ho hg hat hcb hc1 hf1 hys hcc hrr))
      go_roundw
      case rel => exact ⟨x + 1, _, by go_num, by omega, by omega, ⟨by rw [nat_take h0 hlt, HE1.out, ← List.append_assoc, HY.out]; exact (HO2.out.ch (Ch.setCell (Ch.refl w2 (fun k => k = gb)) ⟨gb, 0, none⟩ _ (.inl rfl)) (HO2.out.ne_blk HBK2.out (by decide)))⟩, ⟨one_setCell HBK2.out⟩, ⟨HCH2.out.setCell _ _ (.inl (.inl rfl))⟩, HT2⟩
      case measure => simp [intOf]; omega
    · go_wp2
      go_end0
      exact ⟨_, rfl, by have := HO.out; rw [nat_all (by omega)] at this; exact this, HBK.out, HCH.out, HT.out⟩

end Go.Proofs.Ytophfoenaekfjaa

namespace Go.Proofs.Ytophfoenaekfjaa
open Go.RowKit Go.Proofs.YtophfoenaekfjaaW.PrintWords Go.Proofs.YtophfoenaekfjaaW.PrintLast Go.Proofs.YtophfoenaekfjaaW.PrintMore Go.Proofs.Ytophfoenaekfjaa.PSnapEncodes
set_option linter.unusedVariables false
set_option linter.unusedSimpArgs false
set_option maxHeartbeats 4000000 in
set_option maxRecDepth 100000 in
theorem encode_text (gb base : Nat) (u : Value) (l0 : List Int) (A : Option Addr) (c : Nat) (ls : List (List Int)) (w : World) (hB : base ≤ w.heap.size) (ho : OB w base u l0) (hb : w.heap[gb]? = some (.cells #[u] 29 (0, 0))) (hr : (Kd.slice 5 (Kd.int .u8)).C w A ls.length ls) (hl : (pack ls).length ≤ 1000000) (hl0 : l0.length ≤ 137438953472) :
    Calls Try.prog 68 #[.slice A ls.length c, .pointer (some ⟨gb, 0, none⟩)] w (PostCl w gb base u (l0 ++ pack ls)) := by
  have HL0 := Aside0.mk hl0
  have HLP := Aside0.mk (show (pack ls).length ≤ 2147483647 by omega)
  have HLQ := Aside0.mk hl
  have HR := Aside0.mk hr
  have HO := Aside0.mk ho
  have HBK := Aside0.mk hb
  have hc0 := cell_of_one hb
  have hf0 := free_of_one hb
  clear hr ho hb hl hl0
  obtain ⟨Au, cu, hu, _, _⟩ := HO.out.reads
  subst hu
  go_enter Try.func68, Try.ntmps68
  go_wp2
  have HL1 := Aside0.mk (show l0.length + (pack ls).length ≤ 140737488355328 by have := HL0.out; have := HLQ.out; omega)
  go_region_law (first | (refine ob_append_step rfl (.tmp 3) (.tmp 5) rfl rfl rfl HO1.out HR1.out ?hb ?hl ?_; (case hb => exact Nat.le_trans hB Hb1.out.size); (case hl => have := HL1.out; rw [HE1.out] at this; omega); intro v2 w2 ho hg hat; obtain ⟨ys, hys, ho⟩ := ho.named; obtain ⟨A2, c2, rfl, hcc, hrr⟩ := ho.reads; have HY := Aside0.mk hys; have hcb := blk_grown HBK1.out hg HNB.out; have hc2 := cell_of_one hcb; have hf2 := free_of_one hcb; have HBK2 := Aside0.mk hcb; have HO2 := Aside0.mk ho; have HCH2 := Aside0.mk (HCH.out.grown hg (fun i hi => at_own (.inl rfl) hi)); have HT2 := Aside0.mk (at_trans Hb1.out.size hat); clear ho hg hat hcb hys hcc hrr) | (go_simp; go_at_call 69; refine (octet_Pack _ _ ls _ ?hr HLP.out).mono ?_; (case hr => first | exact HR.out | exact Kd.C_drewN HR.out 1 | exact Kd.C_drew HR.out); rintro e w1 ⟨v, rfl, ho, hb⟩; obtain ⟨b1, hb1, ho⟩ := ho.named; obtain ⟨A1, c1, rfl, hc, hr1⟩ := ho.reads; have HE1 := Aside0.mk hb1; have HR1 := Aside0.mk hr1; have Hb1 := Aside0.mk (show Below w.heap.size w w1 from ((by repeat (first | exact Below.refl _ _ | apply below_drew | apply pw_below_drewN) : Below w.heap.size w _).trans hb)); have HO1 := Aside0.mk (HO.out.below Hb1.out); have HBK1 := Aside0.mk (blk_below HBK.out Hb1.out); have HCH := Aside0.mk ((Ch.refl w (fun k => k = gb ∨ some k = (Value.slice Au l0.length cu).ownBlock)).below Hb1.out); have HNB := Aside0.mk (show some gb ≠ (Value.slice Au l0.length cu).ownBlock from fun e => HO1.out.ne_blk HBK1.out (by decide) gb e.symm rfl); have hc1 := cell_of_one HBK1.out; have hf1 := free_of_one HBK1.out; clear ho hb hr1 hc hb1))
  all_goals
    go_wp2
    go_end0
    exact ⟨_, rfl, by rw [HE1.out, HY.out]; exact (HO2.out.ch (Ch.setCell (Ch.refl w2 (fun k => k = gb)) ⟨gb, 0, none⟩ _ (.inl rfl)) (HO2.out.ne_blk HBK2.out (by decide))), one_setCell HBK2.out, HCH2.out.setCell _ _ (.inl (.inl rfl)), HT2.out⟩

end Go.Proofs.Ytophfoenaekfjaa

namespace Go.Proofs.Ytophfoenaekfjaa
open Go.RowKit Go.Proofs.YtophfoenaekfjaaW.PrintWords Go.Proofs.YtophfoenaekfjaaW.PrintLast Go.Proofs.YtophfoenaekfjaaW.PrintMore Go.Proofs.Ytophfoenaekfjaa.PSnapEncodes
set_option linter.unusedVariables false
set_option linter.unusedSimpArgs false

theorem PostCl.from {w W : World} {gb base : Nat} {u : Value} {l : List Int} {e : Ending} {w' : World} (h : PostCl W gb base u l e w') (hb : Below w.heap.size w W) : PostCl w gb base u l e w' := by
  obtain ⟨v, he, ho, hk, hc, hat⟩ := h.out
  exact ⟨v, he, ho, hk, ((Ch.refl w _).below hb).trans hc (fun i hi => .inl hi), at_trans hb.size hat⟩
theorem enc_num_at (gb base : Nat) (u : Value) (l0 xs : List Int) (W X : World) (hX : Below (W.heap.size + 1) (W.alloc (.cells (xs.map (Value.int .i64)).toArray 3)) X) (hB : base ≤ W.heap.size) (ho : OB W base u l0) (hb : W.heap[gb]? = some (.cells #[u] 29 (0, 0))) (hl : xs.length ≤ 1000) (hx : ∀ x ∈ xs, okInt x) (hl0 : l0.length ≤ 137438953472) :
    Calls Try.prog 66 #[.slice (some ⟨W.heap.size, 0, none⟩) xs.length xs.length, .pointer (some ⟨gb, 0, none⟩)] X (PostCl W gb base u (l0 ++ nat xs)) := by
  have hW : Below W.heap.size W X := (below_alloc (Below.refl _ W) _).trans (hX.mono (by omega))
  have hg := (Array.getElem?_eq_some_iff.1 hb).1
  exact (encode_num gb base u l0 _ xs.length xs X (Nat.le_trans hB hW.size) (ho.below hW) (blk_below hb hW) (C_litX W X xs hl hX) hl hx (fun ad e => by cases e; exact ⟨fun h => by simp at h; omega, fun h => by have := ho.lt _ h.symm; simp at this⟩) hl0).mono fun _ _ hp => hp.from hW
theorem enc_num1 (gb base : Nat) (u : Value) (l0 : List Int) (a : Int) (W : World) (hB : base ≤ W.heap.size) (ho : OB W base u l0) (hb : W.heap[gb]? = some (.cells #[u] 29 (0, 0))) (hx : ∀ x ∈ [a], okInt x) (hl0 : l0.length ≤ 137438953472) :
    Calls Try.prog 66 #[.slice (some ⟨W.heap.size, 0, none⟩) 1 1, .pointer (some ⟨gb, 0, none⟩)] (W.alloc (.cells #[.int .i64 a] 3)) (PostCl W gb base u (l0 ++ nat [a])) := enc_num_at gb base u l0 [a] W _ (Below.refl _ _) hB ho hb (by simp) hx hl0
theorem enc_num2 (gb base : Nat) (u : Value) (l0 : List Int) (a b : Int) (W : World) (hB : base ≤ W.heap.size) (ho : OB W base u l0) (hb : W.heap[gb]? = some (.cells #[u] 29 (0, 0))) (hx : ∀ x ∈ [a, b], okInt x) (hl0 : l0.length ≤ 137438953472) :
    Calls Try.prog 66 #[.slice (some ⟨W.heap.size, 0, none⟩) 2 2, .pointer (some ⟨gb, 0, none⟩)] (W.alloc (.cells #[.int .i64 a, .int .i64 b] 3)) (PostCl W gb base u (l0 ++ nat [a, b])) := enc_num_at gb base u l0 [a, b] W _ (Below.refl _ _) hB ho hb (by simp) hx hl0
theorem enc_num3 (gb base : Nat) (u : Value) (l0 : List Int) (a b c : Int) (W : World) (hB : base ≤ W.heap.size) (ho : OB W base u l0) (hb : W.heap[gb]? = some (.cells #[u] 29 (0, 0))) (hx : ∀ x ∈ [a, b, c], okInt x) (hl0 : l0.length ≤ 137438953472) :
    Calls Try.prog 66 #[.slice (some ⟨W.heap.size, 0, none⟩) 3 3, .pointer (some ⟨gb, 0, none⟩)] (W.alloc (.cells #[.int .i64 a, .int .i64 b, .int .i64 c] 3)) (PostCl W gb base u (l0 ++ nat [a, b, c])) := enc_num_at gb base u l0 [a, b, c] W _ (Below.refl _ _) hB ho hb (by simp) hx hl0
theorem enc_text1 (gb base : Nat) (u : Value) (l0 a : List Int) (A : Option Addr) (c : Nat) (W : World) (hB : base ≤ W.heap.size) (ho : OB W base u l0) (hb : W.heap[gb]? = some (.cells #[u] 29 (0, 0))) (ha : CB W A a) (hc : a.length ≤ c) (hla : a.length ≤ 64) (hl0 : l0.length ≤ 137438953472) :
    Calls Try.prog 68 #[.slice (some ⟨W.heap.size, 0, none⟩) 1 1, .pointer (some ⟨gb, 0, none⟩)] (W.alloc (.cells #[.slice A a.length c] 29)) (PostCl W gb base u (l0 ++ txt a)) := by
  have hW : Below W.heap.size W (W.alloc (.cells #[.slice A a.length c] 29)) := below_alloc (Below.refl _ W) _
  have e : pack [a] = txt a := by simp [pack]
  have := (encode_text gb base u l0 _ 1 [a] _ (Nat.le_trans hB hW.size) (ho.below hW) (blk_below hb hW) (C_litR1 W _ a A c (Kd.C_below ha hW) hc (Below.refl _ _)) (by rw [e]; have := txt_len hla; omega) hl0).mono fun _ _ hp => hp.from hW
  rw [e] at this
  exact this
theorem enc_text2 (gb base : Nat) (u : Value) (l0 a b : List Int) (A B : Option Addr) (c d : Nat) (W : World) (hB : base ≤ W.heap.size) (ho : OB W base u l0) (hb : W.heap[gb]? = some (.cells #[u] 29 (0, 0))) (ha : CB W A a) (hc : a.length ≤ c) (hla : a.length ≤ 64) (hb' : CB W B b) (hd : b.length ≤ d) (hlb : b.length ≤ 64) (hl0 : l0.length ≤ 137438953472) :
    Calls Try.prog 68 #[.slice (some ⟨W.heap.size, 0, none⟩) 2 2, .pointer (some ⟨gb, 0, none⟩)] (W.alloc (.cells #[.slice A a.length c, .slice B b.length d] 29)) (PostCl W gb base u (l0 ++ (txt a ++ txt b))) := by
  have hW : Below W.heap.size W (W.alloc (.cells #[.slice A a.length c, .slice B b.length d] 29)) := below_alloc (Below.refl _ W) _
  have e : pack [a, b] = txt a ++ txt b := by simp [pack]
  have := (encode_text gb base u l0 _ 2 [a, b] _ (Nat.le_trans hB hW.size) (ho.below hW) (blk_below hb hW) (C_litR2 W _ a b A B c d (Kd.C_below ha hW) hc (Kd.C_below hb' hW) hd (Below.refl _ _)) (by rw [e, List.length_append]; have := txt_len hla; have := txt_len hlb; omega) hl0).mono fun _ _ hp => hp.from hW
  rw [e] at this
  exact this
theorem enc_num1' (gb base : Nat) (u : Value) (l0 : List Int) (a : Int) (W : World) (o : Obj) (hB : base ≤ W.heap.size) (ho : OB W base u l0) (hb : (W.alloc o).heap[gb]? = some (.cells #[u] 29 (0, 0))) (hx : ∀ x ∈ [a], okInt x) (hl0 : l0.length ≤ 137438953472) :
    Calls Try.prog 66 #[.slice (some ⟨W.heap.size + 1, 0, none⟩) 1 1, .pointer (some ⟨gb, 0, none⟩)] ((W.alloc o).alloc (.cells #[.int .i64 a] 3)) (PostCl (W.alloc o) gb base u (l0 ++ nat [a])) := by
  have h := enc_num1 gb base u l0 a (W.alloc o) (by simp; omega) (ho.below (below_alloc (Below.refl _ W) o)) hb hx hl0
  rw [show (W.alloc o).heap.size = W.heap.size + 1 by simp] at h
  exact h
theorem enc_num2' (gb base : Nat) (u : Value) (l0 : List Int) (a b : Int) (W : World) (o : Obj) (hB : base ≤ W.heap.size) (ho : OB W base u l0) (hb : (W.alloc o).heap[gb]? = some (.cells #[u] 29 (0, 0))) (hx : ∀ x ∈ [a, b], okInt x) (hl0 : l0.length ≤ 137438953472) :
    Calls Try.prog 66 #[.slice (some ⟨W.heap.size + 1, 0, none⟩) 2 2, .pointer (some ⟨gb, 0, none⟩)] ((W.alloc o).alloc (.cells #[.int .i64 a, .int .i64 b] 3)) (PostCl (W.alloc o) gb base u (l0 ++ nat [a, b])) := by
  have h := enc_num2 gb base u l0 a b (W.alloc o) (by simp; omega) (ho.below (below_alloc (Below.refl _ W) o)) hb hx hl0
  rw [show (W.alloc o).heap.size = W.heap.size + 1 by simp] at h
  exact h
theorem enc_num3' (gb base : Nat) (u : Value) (l0 : List Int) (a b c : Int) (W : World) (o : Obj) (hB : base ≤ W.heap.size) (ho : OB W base u l0) (hb : (W.alloc o).heap[gb]? = some (.cells #[u] 29 (0, 0))) (hx : ∀ x ∈ [a, b, c], okInt x) (hl0 : l0.length ≤ 137438953472) :
    Calls Try.prog 66 #[.slice (some ⟨W.heap.size + 1, 0, none⟩) 3 3, .pointer (some ⟨gb, 0, none⟩)] ((W.alloc o).alloc (.cells #[.int .i64 a, .int .i64 b, .int .i64 c] 3)) (PostCl (W.alloc o) gb base u (l0 ++ nat [a, b, c])) := by
  have h := enc_num3 gb base u l0 a b c (W.alloc o) (by simp; omega) (ho.below (below_alloc (Below.refl _ W) o)) hb hx hl0
  rw [show (W.alloc o).heap.size = W.heap.size + 1 by simp] at h
  exact h
theorem enc_text1' (gb base : Nat) (u : Value) (l0 a : List Int) (A : Option Addr) (c : Nat) (W : World) (o : Obj) (hB : base ≤ W.heap.size) (ho : OB W base u l0) (hb : W.heap[gb]? = some (.cells #[u] 29 (0, 0))) (ha : CB W A a) (hc : a.length ≤ c) (hla : a.length ≤ 64) (hl0 : l0.length ≤ 137438953472) :
    Calls Try.prog 68 #[.slice (some ⟨W.heap.size + 1, 0, none⟩) 1 1, .pointer (some ⟨gb, 0, none⟩)] ((W.alloc o).alloc (.cells #[.slice A a.length c] 29)) (PostCl (W.alloc o) gb base u (l0 ++ txt a)) := by
  have hW := below_alloc (Below.refl _ W) o
  have h := enc_text1 gb base u l0 a A c (W.alloc o) (Nat.le_trans hB hW.size) (ho.below hW) (blk_below hb hW) (Kd.C_below ha hW) hc hla hl0
  rw [show (W.alloc o).heap.size = W.heap.size + 1 by simp] at h
  exact h
theorem enc_text2' (gb base : Nat) (u : Value) (l0 a b : List Int) (A B : Option Addr) (c d : Nat) (W : World) (o : Obj) (hB : base ≤ W.heap.size) (ho : OB W base u l0) (hb : W.heap[gb]? = some (.cells #[u] 29 (0, 0))) (ha : CB W A a) (hc : a.length ≤ c) (hla : a.length ≤ 64) (hb' : CB W B b) (hd : b.length ≤ d) (hlb : b.length ≤ 64) (hl0 : l0.length ≤ 137438953472) :
    Calls Try.prog 68 #[.slice (some ⟨W.heap.size + 1, 0, none⟩) 2 2, .pointer (some ⟨gb, 0, none⟩)] ((W.alloc o).alloc (.cells #[.slice A a.length c, .slice B b.length d] 29)) (PostCl (W.alloc o) gb base u (l0 ++ (txt a ++ txt b))) := by
  have hW := below_alloc (Below.refl _ W) o
  have h := enc_text2 gb base u l0 a b A B c d (W.alloc o) (Nat.le_trans hB hW.size) (ho.below hW) (blk_below hb hW) (Kd.C_below ha hW) hc hla (Kd.C_below hb' hW) hd hlb hl0
  rw [show (W.alloc o).heap.size = W.heap.size + 1 by simp] at h
  exact h
theorem cl_cell {W : World} {cs : Array Value} {t : TypeId} {gb base : Nat} {u : Value} {l l0 : List Int} {e : Ending} {w' : World} (hp : PostCl (W.alloc (.cells cs t)) gb base u l e w') (j : Nat) (v : Value) (hv : cs[j]? = some v) (ho : OB W base u l0) (hk : W.heap[gb]? = some (.cells #[u] 29 (0, 0))) : w'.cell? ⟨W.heap.size, j, none⟩ = some v := by
  obtain ⟨_, _, _, _, hc, _⟩ := hp.out
  refine hc.cell (((blk_cell (heap_alloc_new W (.cells cs t)) j)).trans hv) (fun h => ?_)
  have hg := (Array.getElem?_eq_some_iff.1 hk).1
  rcases h with h | h
  · simp at h; omega
  · have := ho.lt _ h.symm; simp at this
theorem PostCl.below {w0 w : World} {gb base : Nat} {u : Value} {l : List Int} {e : Ending} {w' : World} (h : PostCl w gb base u l e w') (hb : Below base w0 w) (hg : base ≤ gb) (hu : ∀ k, u.ownBlock = some k → base ≤ k) (hs : base ≤ w.heap.size) : Below base w0 w' := by
  obtain ⟨v, _, _, _, hc, _⟩ := h.out
  exact hb.trans (hc.to_below (fun i hi => hi.elim (fun e => by omega) (fun e => hu i e.symm)) hs)
set_option maxHeartbeats 4000000 in
set_option maxRecDepth 100000 in
theorem snap_Encode (a0 : Int) (A1 A2 A3 : Option Addr) (c1 c2 c3 : Nat) (l1 : List S72) (l2 : List S87) (l3 : List S97) (w : World) (h1 : Kd.C k72 w A1 l1.length l1) (m1 : l1.length ≤ c1) (h2 : Kd.C k87 w A2 l2.length l2) (m2 : l2.length ≤ c2) (h3 : Kd.C k97 w A3 l3.length l3) (m3 : l3.length ≤ c3) :
    Calls Try.prog 20 #[.agg #[.int .i64 a0, .slice A1 l1.length c1, .slice A2 l2.length c2, .slice A3 l3.length c3]] w (PostEn w (goodA a0 l1 l2 l3) (encA a0 l1 l2 l3)) := by
  have H1 := Aside0.mk h1
  have H2 := Aside0.mk h2
  have H3 := Aside0.mk h3
  clear h1 h2 h3
  have HB := Aside0.mk (Below.refl (w.heap.size + 1) (w.alloc (.cells #[.int .i64 a0, .slice A1 l1.length c1, .slice A2 l2.length c2, .slice A3 l3.length c3] 26)))
  go_enter Try.func20, Try.ntmps20
  go_wp2_with fail
  refine (session_Right _ _ _ _ _ _ _ _ _ _ _ (C_old H1.out HB.out) m1 (C_old H2.out HB.out) m2 (C_old H3.out HB.out) m3).mono ?_
  rintro e w1 ⟨b, rfl, hb, hiff⟩
  have HB1 := Aside0.mk (HB.out.trans (hb.mono (by simp)))
  have HS1 : w.heap.size + 1 ≤ w1.heap.size := by simpa using HB1.out.size
  clear hb HB
  have HI := Aside0.mk hiff
  clear hiff
  have hb0 := box_cell HB1.out 0 _ rfl
  have hb1 := box_cell HB1.out 1 _ rfl
  have hb2 := box_cell HB1.out 2 _ rfl
  have hb3 := box_cell HB1.out 3 _ rfl
  cases b with
  | false =>
    go_wp2
    go_ret2
    exact ⟨_, [], 101, rfl, OB_nil _ _, below_of_alloc HB1.out, fun h => (by have := HI.out.2 h; cases this), fun _ => ⟨rfl, rfl⟩⟩
  | true =>
    have HG := Aside0.mk (HI.out.1 (by simp))
    have hl1 : l1.length ≤ 64 := HG.out.ent.1
    have hl2 : l2.length ≤ 16 := HG.out.lea.1
    have hl3 : l3.length ≤ 4 := goodS_len HG.out.ses
    have HX1 := Aside0.mk (show ∀ x ∈ [a0, (l1.length : Int)], okInt x from fun x hx => by have := HG.out.slot; simp at hx; unfold okInt; rcases hx with rfl | rfl <;> omega)
    have HX2 := Aside0.mk (show ∀ x ∈ [(l2.length : Int)], okInt x from fun x hx => by simp at hx; unfold okInt; omega)
    have HX3 := Aside0.mk (show ∀ x ∈ [(l3.length : Int)], okInt x from fun x hx => by simp at hx; unfold okInt; omega)
    have HN1 := Aside0.mk (nat_len _ HX1.out)
    clear HI
    have HKK := Aside0.mk (heap_alloc_new w1 (.cells #[.slice none 0 0] 29))
    have HGB := Aside0.mk HS1
    have hb0' := pw_cell_below (below_alloc (Below.refl _ w1) (.cells #[.slice none 0 0] 29)) hb0
    have hb1' := pw_cell_below (below_alloc (Below.refl _ w1) (.cells #[.slice none 0 0] 29)) hb1
    have HO1 := Aside0.mk (OB_nil w1 (w.heap.size + 1))
    go_wp2_with fail
    refine (enc_num2' w1.heap.size (w.heap.size + 1) _ [] a0 l1.length w1 (.cells #[.slice none 0 0] 29) HS1 HO1.out HKK.out HX1.out (by simp)).mono ?_
    have HB2 := Aside0.mk (below1_alloc HB1.out (.cells #[.slice none 0 0] 29) HS1)
    have HS2 : w.heap.size + 1 ≤ (w1.alloc (.cells #[.slice none 0 0] 29)).heap.size := by simp; omega
    have HO2 := Aside0.mk (OB_nil (w1.alloc (.cells #[.slice none 0 0] 29)) (w.heap.size + 1))
    clear hb0' hb1' HO1
    generalize w1.alloc (.cells #[.slice none 0 0] 29) = w2 at HB2 HS2 HO2 HKK ⊢
    generalize w1.heap.size = gb at HGB HKK ⊢
    have HK2 := HKK
    clear HKK HB1 HS1
    rintro e w3 hp
    have hBn := hp.below HB2.out HGB.out HO2.out.base_le HS2
    obtain ⟨v3, rfl, ho, hk, hch, hat⟩ := hp.out
    have HB3 := Aside0.mk hBn
    have HS3 : w.heap.size + 1 ≤ w3.heap.size := Nat.le_trans HS2 hch.size
    obtain ⟨a3, ha3⟩ : ∃ ys : List Int, [] ++ nat [a0, (l1.length : Int)] = ys := ⟨_, rfl⟩
    replace ho : OB w3 (w.heap.size + 1) v3 ([] ++ nat [a0, (l1.length : Int)]) := ho
    rw [ha3] at ho
    have HO3 := Aside0.mk ho
    have HK3 := Aside0.mk hk
    have HE3 := Aside0.mk ha3
    clear ho hk hch hat ha3 hp hBn HB2 HO2 HK2 HS2 hb0 hb1 hb2 hb3
    have hb0 := box_cell HB3.out 0 _ rfl
    have hb1 := box_cell HB3.out 1 _ rfl
    have hb2 := box_cell HB3.out 2 _ rfl
    have hb3 := box_cell HB3.out 3 _ rfl
    have HL3 := Aside0.mk (show a3.length ≤ 1000 by rw [← HE3.out]; have := HN1.out; simp at this; simp; omega)
    clear HX1 HN1
    go_wp2
    go_loopw [29] (fun vi wr => ∃ (x : Int) (v : Value), vi = .int .i64 x ∧ 0 ≤ x ∧ x ≤ l1.length ∧ Aside0 (OB wr (w.heap.size + 1) v (a3 ++ encE (l1.take x.toNat))) ∧ Aside0 (wr.heap[gb]? = some (.cells #[v] 29 (0, 0))) ∧ Aside0 ((a3 ++ encE (l1.take x.toNat)).length ≤ 1000 + 200 * x.toNat) ∧ Aside0 (Below (w.heap.size + 1) (w.alloc (.cells #[.int .i64 a0, .slice A1 l1.length c1, .slice A2 l2.length c2, .slice A3 l3.length c3] 26)) wr)) (fun vi _ => l1.length - (intOf vi).toNat)
    case atStart => exact ⟨0, _, rfl, by omega, by omega, ⟨by simpa [encE] using HO3.out⟩, HK3, ⟨by have := HL3.out; simp [encE]; omega⟩, HB3⟩
    case round =>
      clear HB3 HO3 HK3 HS3 hb0 hb1 hb2 hb3
      obtain ⟨x, v, rfl, h0, hi, HO, HK, HLA, HB⟩ := hrel
      have HS : w.heap.size + 1 ≤ wr.heap.size := by simpa using HB.out.size
      have hb0 := box_cell HB.out 0 _ rfl
      have hb1 := box_cell HB.out 1 _ rfl
      have hb2 := box_cell HB.out 2 _ rfl
      have hb3 := box_cell HB.out 3 _ rfl
      by_cases hlt : x < l1.length
      · obtain ⟨ad, A, c, A', c', e1, hx0, hx1, hlc, hn, hlc2, hn2⟩ := at_T72 H1.out x h0 hlt
        subst e1
        replace hx0 := pw_cell_below (below_of_alloc HB.out) hx0
        replace hx1 := pw_cell_below (below_of_alloc HB.out) hx1
        have HN := Aside0.mk hn
        have HN2 := Aside0.mk hn2
        have HCC := Aside0.mk hlc
        have HCC2 := Aside0.mk hlc2
        have HGE := Aside0.mk (HG.out.ent.2 x h0 hlt)
        have hlA : (rd_T72 l1 x).f0.length ≤ 16 := HGE.out.num.2.1
        have hlB : (rd_T72 l1 x).f1.length ≤ 64 := HGE.out.num.2.2
        clear hn hn2 hlc hlc2
        go_wp2_with fail
        refine (enc_text2' gb (w.heap.size + 1) _ _ _ _ A A' c c' wr (.cells #[.slice A (rd_T72 l1 x).f0.length c, .slice A' (rd_T72 l1 x).f1.length c'] 72) HS HO.out HK.out (C_old HN.out HB.out) HCC.out (by omega) (C_old HN2.out HB.out) HCC2.out (by omega) (by have := HLA.out; omega)).mono ?_
        rintro e w8 hp
        replace hp := hp.from (below_alloc (Below.refl _ wr) _)
        have hBn := hp.below HB.out HGB.out HO.out.base_le HS
        obtain ⟨v8, rfl, ho, hk, hch, hat⟩ := hp.out
        have HB8 := Aside0.mk hBn
        have HS8 : w.heap.size + 1 ≤ w8.heap.size := Nat.le_trans HS hch.size
        obtain ⟨a8, ha8⟩ : ∃ ys : List Int, (a3 ++ encE (l1.take x.toNat)) ++ itemE (rd_T72 l1 x) = ys := ⟨_, rfl⟩
        replace ho : OB w8 (w.heap.size + 1) v8 ((a3 ++ encE (l1.take x.toNat)) ++ itemE (rd_T72 l1 x)) := ho
        rw [ha8] at ho
        have HO8 := Aside0.mk ho
        have HK8 := Aside0.mk hk
        have HE8 := Aside0.mk ha8
        clear ho hk hch hat ha8 hp hBn HB HO HK HS hb0 hb1 hb2 hb3
        have hb0 := box_cell HB8.out 0 _ rfl
        have hb1 := box_cell HB8.out 1 _ rfl
        have hb2 := box_cell HB8.out 2 _ rfl
        have hb3 := box_cell HB8.out 3 _ rfl
        go_wp2
        go_roundw
        case rel => exact ⟨x + 1, _, by go_num, by omega, by omega, ⟨by rw [encE, fm_take itemE z72 h0 hlt, ← List.append_assoc]; have e := HE8.out; unfold encE at e; unfold rd_T72 at e; rw [e]; exact HO8.out⟩, HK8, ⟨by rw [encE, fm_take itemE z72 h0 hlt, ← List.append_assoc, List.length_append]; have := HLA.out; have := itemE_len HGE.out; unfold encE at *; unfold rd_T72 at *; omega⟩, HB8⟩
        case measure => simp [intOf]; omega
      · have he := fm_all itemE (xs := l1) (x := x) (by omega)
        have hx9 : x ≤ l1.length := by omega
        replace HO := Aside0.mk (show OB wr (w.heap.size + 1) _ (a3 ++ encE l1) by have := HO.out; unfold encE at this; rw [he] at this; exact this)
        replace HLA := Aside0.mk (show (a3 ++ encE l1).length ≤ 1000 + 200 * x.toNat by have := HLA.out; unfold encE at this; rw [he] at this; exact this)
        clear he
        go_wp2_with fail
        refine (enc_num1 gb (w.heap.size + 1) _ _ (l2.length : Int) wr HS HO.out HK.out HX2.out (by have := HLA.out; omega)).mono ?_
        rintro e w4 hp
        have hBn := hp.below HB.out HGB.out HO.out.base_le HS
        obtain ⟨v4, rfl, ho, hk, hch, hat⟩ := hp.out
        have HB4 := Aside0.mk hBn
        have HS4 : w.heap.size + 1 ≤ w4.heap.size := Nat.le_trans HS hch.size
        obtain ⟨a4, ha4⟩ : ∃ ys : List Int, (a3 ++ encE l1) ++ nat [(l2.length : Int)] = ys := ⟨_, rfl⟩
        replace ho : OB w4 (w.heap.size + 1) v4 ((a3 ++ encE l1) ++ nat [(l2.length : Int)]) := ho
        rw [ha4] at ho
        have HO4 := Aside0.mk ho
        have HK4 := Aside0.mk hk
        have HE4 := Aside0.mk ha4
        clear ho hk hch hat ha4 hp hBn HB HO HK HS hb0 hb1 hb2 hb3
        have hb0 := box_cell HB4.out 0 _ rfl
        have hb1 := box_cell HB4.out 1 _ rfl
        have hb2 := box_cell HB4.out 2 _ rfl
        have hb3 := box_cell HB4.out 3 _ rfl
        have HL4 := Aside0.mk (show a4.length ≤ 20000 by rw [← HE4.out, List.length_append]; have h8 := HLA.out; have := nat_len _ HX2.out; simp at this; omega)
        clear HLA
        go_wp2
        go_loopw [50] (fun vi wr => ∃ (x : Int) (v : Value), vi = .int .i64 x ∧ 0 ≤ x ∧ x ≤ l2.length ∧ Aside0 (OB wr (w.heap.size + 1) v (a4 ++ encL (l2.take x.toNat))) ∧ Aside0 (wr.heap[gb]? = some (.cells #[v] 29 (0, 0))) ∧ Aside0 ((a4 ++ encL (l2.take x.toNat)).length ≤ 20000 + 200 * x.toNat) ∧ Aside0 (Below (w.heap.size + 1) (w.alloc (.cells #[.int .i64 a0, .slice A1 l1.length c1, .slice A2 l2.length c2, .slice A3 l3.length c3] 26)) wr)) (fun vi _ => l2.length - (intOf vi).toNat)
        case atStart => exact ⟨0, _, rfl, by omega, by omega, ⟨by simpa [encL] using HO4.out⟩, HK4, ⟨by have := HL4.out; simp [encL]; omega⟩, HB4⟩
        case round =>
          clear HB4 HO4 HK4 HS4 hb0 hb1 hb2 hb3
          obtain ⟨x, v, rfl, h0, hi, HO, HK, HLA, HB⟩ := hrel
          have HS : w.heap.size + 1 ≤ wr.heap.size := by simpa using HB.out.size
          have hb0 := box_cell HB.out 0 _ rfl
          have hb1 := box_cell HB.out 1 _ rfl
          have hb2 := box_cell HB.out 2 _ rfl
          have hb3 := box_cell HB.out 3 _ rfl
          by_cases hlt : x < l2.length
          · obtain ⟨ad, A, c, e1, hx0, hx1, hx2, hlc, hn⟩ := at_T87 H2.out x h0 hlt
            subst e1
            replace hx0 := pw_cell_below (below_of_alloc HB.out) hx0
            replace hx1 := pw_cell_below (below_of_alloc HB.out) hx1
            replace hx2 := pw_cell_below (below_of_alloc HB.out) hx2
            have HN := Aside0.mk hn
            have HCC := Aside0.mk hlc
            have HGE := Aside0.mk (HG.out.lea.2 x h0 hlt)
            have hlA : (rd_T87 l2 x).f0.length ≤ 16 := HGE.out.num.1.2
            have HT1 := Aside0.mk (txt_len (l := (rd_T87 l2 x).f0) (by omega))
            have HXL := Aside0.mk (show ∀ y ∈ [(rd_T87 l2 x).f1, (rd_T87 l2 x).f2], okInt y from fun y hy => by have := HGE.out.num; simp at hy; unfold okInt; rcases hy with rfl | rfl <;> omega)
            have hx9' : x.toNat ≤ 1000 := by omega
            have HBO := Aside0.mk (heap_alloc_new wr (.cells #[.slice A (rd_T87 l2 x).f0.length c, .int .i64 (rd_T87 l2 x).f1, .int .i64 (rd_T87 l2 x).f2] 87))
            have HBOW := Aside0.mk (below1_alloc HB.out (.cells #[.slice A (rd_T87 l2 x).f0.length c, .int .i64 (rd_T87 l2 x).f1, .int .i64 (rd_T87 l2 x).f2] 87) HS)
            clear hn hlc
            go_wp2_with fail
            refine (enc_text1' gb (w.heap.size + 1) _ _ _ A c wr (.cells #[.slice A (rd_T87 l2 x).f0.length c, .int .i64 (rd_T87 l2 x).f1, .int .i64 (rd_T87 l2 x).f2] 87) HS HO.out HK.out (C_old HN.out HB.out) HCC.out (by omega) (by have := HLA.out; omega)).mono ?_
            rintro e w8 hp
            have hx1b : w8.cell? ⟨wr.heap.size, 1, none⟩ = some (.int .i64 (rd_T87 l2 x).f1) := cl_cell hp 1 _ rfl HO.out HK.out
            have hx2b : w8.cell? ⟨wr.heap.size, 2, none⟩ = some (.int .i64 (rd_T87 l2 x).f2) := cl_cell hp 2 _ rfl HO.out HK.out
            replace hp := hp.from (below_alloc (Below.refl _ wr) _)
            have hBn := hp.below HB.out HGB.out HO.out.base_le HS
            obtain ⟨v8, rfl, ho, hk, hch, hat⟩ := hp.out
            have HB8 := Aside0.mk hBn
            have HS8 : w.heap.size + 1 ≤ w8.heap.size := Nat.le_trans HS hch.size
            obtain ⟨a8, ha8⟩ : ∃ ys : List Int, (a4 ++ encL (l2.take x.toNat)) ++ txt (rd_T87 l2 x).f0 = ys := ⟨_, rfl⟩
            replace ho : OB w8 (w.heap.size + 1) v8 ((a4 ++ encL (l2.take x.toNat)) ++ txt (rd_T87 l2 x).f0) := ho
            rw [ha8] at ho
            have HO8 := Aside0.mk ho
            have HK8 := Aside0.mk hk
            have HE8 := Aside0.mk ha8
            clear ho hk hch hat ha8 hp hBn HB HO HK HS hb0 hb1 hb2 hb3
            have hb0 := box_cell HB8.out 0 _ rfl
            have hb1 := box_cell HB8.out 1 _ rfl
            have hb2 := box_cell HB8.out 2 _ rfl
            have hb3 := box_cell HB8.out 3 _ rfl
            have hx1 := hx1b
            have hx2 := hx2b
            go_wp2_with fail
            refine (enc_num2 gb (w.heap.size + 1) _ _ (rd_T87 l2 x).f1 (rd_T87 l2 x).f2 w8 HS8 HO8.out HK8.out HXL.out (by rw [← HE8.out]; exact lenacc HLA.out HT1.out hx9' (by omega))).mono ?_
            rintro e w9 hp
            have hBn := hp.below HB8.out HGB.out HO8.out.base_le HS8
            obtain ⟨v9, rfl, ho, hk, hch, hat⟩ := hp.out
            have HB9 := Aside0.mk hBn
            have HS9 : w.heap.size + 1 ≤ w9.heap.size := Nat.le_trans HS8 hch.size
            obtain ⟨a9, ha9⟩ : ∃ ys : List Int, a8 ++ nat [(rd_T87 l2 x).f1, (rd_T87 l2 x).f2] = ys := ⟨_, rfl⟩
            replace ho : OB w9 (w.heap.size + 1) v9 (a8 ++ nat [(rd_T87 l2 x).f1, (rd_T87 l2 x).f2]) := ho
            rw [ha9] at ho
            have HO9 := Aside0.mk ho
            have HK9 := Aside0.mk hk
            have HE9 := Aside0.mk ha9
            clear ho hk hch hat ha9 hp hBn HB8 HO8 HK8 HS8 hb0 hb1 hb2 hb3
            have hb0 := box_cell HB9.out 0 _ rfl
            have hb1 := box_cell HB9.out 1 _ rfl
            have hb2 := box_cell HB9.out 2 _ rfl
            have hb3 := box_cell HB9.out 3 _ rfl
            go_wp2
            go_roundw
            case rel => exact ⟨x + 1, _, by go_num, by omega, by omega, ⟨by rw [encL, fm_take itemL z87 h0 hlt, ← List.append_assoc]; have e := HE9.out; unfold encL at e; unfold rd_T87 at e; have e8 := HE8.out; unfold encL at e8; unfold rd_T87 at e8; rw [itemL, ← List.append_assoc, e8]; rw [e]; exact HO9.out⟩, HK9, ⟨by rw [encL, fm_take itemL z87 h0 hlt, ← List.append_assoc, List.length_append]; have := HLA.out; have := itemL_len HGE.out; unfold encL at *; unfold rd_T87 at *; omega⟩, HB9⟩
            case measure => simp [intOf]; omega
          · have he := fm_all itemL (xs := l2) (x := x) (by omega)
            have hx9 : x ≤ l2.length := by omega
            replace HO := Aside0.mk (show OB wr (w.heap.size + 1) _ (a4 ++ encL l2) by have := HO.out; unfold encL at this; rw [he] at this; exact this)
            replace HLA := Aside0.mk (show (a4 ++ encL l2).length ≤ 20000 + 200 * x.toNat by have := HLA.out; unfold encL at this; rw [he] at this; exact this)
            clear he
            go_wp2_with fail
            refine (enc_num1 gb (w.heap.size + 1) _ _ (l3.length : Int) wr HS HO.out HK.out HX3.out (by have := HLA.out; omega)).mono ?_
            rintro e w5 hp
            have hBn := hp.below HB.out HGB.out HO.out.base_le HS
            obtain ⟨v5, rfl, ho, hk, hch, hat⟩ := hp.out
            have HB5 := Aside0.mk hBn
            have HS5 : w.heap.size + 1 ≤ w5.heap.size := Nat.le_trans HS hch.size
            obtain ⟨a5, ha5⟩ : ∃ ys : List Int, (a4 ++ encL l2) ++ nat [(l3.length : Int)] = ys := ⟨_, rfl⟩
            replace ho : OB w5 (w.heap.size + 1) v5 ((a4 ++ encL l2) ++ nat [(l3.length : Int)]) := ho
            rw [ha5] at ho
            have HO5 := Aside0.mk ho
            have HK5 := Aside0.mk hk
            have HE5 := Aside0.mk ha5
            clear ho hk hch hat ha5 hp hBn HB HO HK HS hb0 hb1 hb2 hb3
            have hb0 := box_cell HB5.out 0 _ rfl
            have hb1 := box_cell HB5.out 1 _ rfl
            have hb2 := box_cell HB5.out 2 _ rfl
            have hb3 := box_cell HB5.out 3 _ rfl
            have HL5 := Aside0.mk (show a5.length ≤ 30000 by rw [← HE5.out, List.length_append]; have h8 := HLA.out; have := nat_len _ HX3.out; simp at this; omega)
            clear HLA
            go_wp2
            go_loopw [76] (fun vi wr => ∃ (x : Int) (v : Value), vi = .int .i64 x ∧ 0 ≤ x ∧ x ≤ l3.length ∧ Aside0 (OB wr (w.heap.size + 1) v (a5 ++ encS (l3.take x.toNat))) ∧ Aside0 (wr.heap[gb]? = some (.cells #[v] 29 (0, 0))) ∧ Aside0 ((a5 ++ encS (l3.take x.toNat)).length ≤ 30000 + 200 * x.toNat) ∧ Aside0 (Below (w.heap.size + 1) (w.alloc (.cells #[.int .i64 a0, .slice A1 l1.length c1, .slice A2 l2.length c2, .slice A3 l3.length c3] 26)) wr)) (fun vi _ => l3.length - (intOf vi).toNat)
            case atStart => exact ⟨0, _, rfl, by omega, by omega, ⟨by simpa [encS] using HO5.out⟩, HK5, ⟨by have := HL5.out; simp [encS]; omega⟩, HB5⟩
            case round =>
              clear HB5 HO5 HK5 HS5 hb0 hb1 hb2 hb3
              obtain ⟨x, v, rfl, h0, hi, HO, HK, HLA, HB⟩ := hrel
              have HS : w.heap.size + 1 ≤ wr.heap.size := by simpa using HB.out.size
              have hb0 := box_cell HB.out 0 _ rfl
              have hb1 := box_cell HB.out 1 _ rfl
              have hb2 := box_cell HB.out 2 _ rfl
              have hb3 := box_cell HB.out 3 _ rfl
              by_cases hlt : x < l3.length
              · obtain ⟨ad, A, c, e1, hx0, hx1, hx2, hx3, hlc, hn⟩ := at_T97 H3.out x h0 hlt
                subst e1
                replace hx0 := pw_cell_below (below_of_alloc HB.out) hx0
                replace hx1 := pw_cell_below (below_of_alloc HB.out) hx1
                replace hx2 := pw_cell_below (below_of_alloc HB.out) hx2
                replace hx3 := pw_cell_below (below_of_alloc HB.out) hx3
                have HN := Aside0.mk hn
                have HCC := Aside0.mk hlc
                have HGE := Aside0.mk (HG.out.ses x h0 hlt)
                have hlA : (rd_T97 l3 x).f2.f1.length ≤ 64 := HGE.out.num.2.2.2.2
                have HXL := Aside0.mk (show ∀ y ∈ [(rd_T97 l3 x).f0, (rd_T97 l3 x).f1, (rd_T97 l3 x).f2.f0], okInt y from fun y hy => by have := HGE.out.num; simp at hy; unfold okInt; rcases hy with rfl | rfl | rfl <;> omega)
                have HNL := Aside0.mk (nat_len _ HXL.out)
                have hx9' : x.toNat ≤ 1000 := by omega
                have HBOW := Aside0.mk (below1_alloc HB.out (.cells #[.int .i64 (rd_T97 l3 x).f0, .int .i64 (rd_T97 l3 x).f1, .int .i64 (rd_T97 l3 x).f2.f0, .slice A (rd_T97 l3 x).f2.f1.length c] 97) HS)
                have HKW := Aside0.mk (blk_below HK.out (below_alloc (Below.refl _ wr) (.cells #[.int .i64 (rd_T97 l3 x).f0, .int .i64 (rd_T97 l3 x).f1, .int .i64 (rd_T97 l3 x).f2.f0, .slice A (rd_T97 l3 x).f2.f1.length c] 97)))
                clear hn hlc
                go_wp2_with fail
                refine (enc_num3' gb (w.heap.size + 1) _ _ (rd_T97 l3 x).f0 (rd_T97 l3 x).f1 (rd_T97 l3 x).f2.f0 wr (.cells #[.int .i64 (rd_T97 l3 x).f0, .int .i64 (rd_T97 l3 x).f1, .int .i64 (rd_T97 l3 x).f2.f0, .slice A (rd_T97 l3 x).f2.f1.length c] 97) HS HO.out HKW.out HXL.out (by have := HLA.out; omega)).mono ?_
                rintro e w8 hp
                have hx3b : w8.cell? ⟨wr.heap.size, 3, none⟩ = some (.slice A (rd_T97 l3 x).f2.f1.length c) := cl_cell hp 3 _ rfl HO.out HK.out
                replace hp := hp.from (below_alloc (Below.refl _ wr) _)
                have hBn := hp.below HB.out HGB.out HO.out.base_le HS
                obtain ⟨v8, rfl, ho, hk, hch, hat⟩ := hp.out
                have HB8 := Aside0.mk hBn
                have HS8 : w.heap.size + 1 ≤ w8.heap.size := Nat.le_trans HS hch.size
                obtain ⟨a8, ha8⟩ : ∃ ys : List Int, (a5 ++ encS (l3.take x.toNat)) ++ nat [(rd_T97 l3 x).f0, (rd_T97 l3 x).f1, (rd_T97 l3 x).f2.f0] = ys := ⟨_, rfl⟩
                replace ho : OB w8 (w.heap.size + 1) v8 ((a5 ++ encS (l3.take x.toNat)) ++ nat [(rd_T97 l3 x).f0, (rd_T97 l3 x).f1, (rd_T97 l3 x).f2.f0]) := ho
                rw [ha8] at ho
                have HO8 := Aside0.mk ho
                have HK8 := Aside0.mk hk
                have HE8 := Aside0.mk ha8
                clear ho hk hch hat ha8 hp hBn HB HO HK HS hb0 hb1 hb2 hb3
                have hb0 := box_cell HB8.out 0 _ rfl
                have hb1 := box_cell HB8.out 1 _ rfl
                have hb2 := box_cell HB8.out 2 _ rfl
                have hb3 := box_cell HB8.out 3 _ rfl
                have hx3 := hx3b
                have HL8 := Aside0.mk (show a8.length ≤ 1000000 by rw [← HE8.out, List.length_append]; have h8 := HLA.out; have h9 := HNL.out; simp only [List.length_cons, List.length_nil] at h9; omega)
                go_wp2_with fail
                refine (enc_text1 gb (w.heap.size + 1) _ _ (rd_T97 l3 x).f2.f1 A c w8 HS8 HO8.out HK8.out (C_old HN.out HB8.out) HCC.out (by omega) (by have := HL8.out; omega)).mono ?_
                rintro e w9 hp
                have hBn := hp.below HB8.out HGB.out HO8.out.base_le HS8
                obtain ⟨v9, rfl, ho, hk, hch, hat⟩ := hp.out
                have HB9 := Aside0.mk hBn
                have HS9 : w.heap.size + 1 ≤ w9.heap.size := Nat.le_trans HS8 hch.size
                obtain ⟨a9, ha9⟩ : ∃ ys : List Int, a8 ++ txt (rd_T97 l3 x).f2.f1 = ys := ⟨_, rfl⟩
                replace ho : OB w9 (w.heap.size + 1) v9 (a8 ++ txt (rd_T97 l3 x).f2.f1) := ho
                rw [ha9] at ho
                have HO9 := Aside0.mk ho
                have HK9 := Aside0.mk hk
                have HE9 := Aside0.mk ha9
                clear ho hk hch hat ha9 hp hBn HB8 HO8 HK8 HS8 hb0 hb1 hb2 hb3
                have hb0 := box_cell HB9.out 0 _ rfl
                have hb1 := box_cell HB9.out 1 _ rfl
                have hb2 := box_cell HB9.out 2 _ rfl
                have hb3 := box_cell HB9.out 3 _ rfl
                go_wp2
                go_roundw
                case rel => exact ⟨x + 1, _, by go_num, by omega, by omega, ⟨by rw [encS, fm_take itemS z97 h0 hlt, ← List.append_assoc]; have e := HE9.out; unfold encS at e; unfold rd_T97 at e; have e8 := HE8.out; unfold encS at e8; unfold rd_T97 at e8; rw [itemS, ← List.append_assoc, e8]; rw [e]; exact HO9.out⟩, HK9, ⟨by rw [encS, fm_take itemS z97 h0 hlt, ← List.append_assoc, List.length_append]; have := HLA.out; have := itemS_len HGE.out; unfold encS at *; unfold rd_T97 at *; omega⟩, HB9⟩
                case measure => simp [intOf]; omega
              · have he := fm_all itemS (xs := l3) (x := x) (by omega)
                have hx9 : x ≤ l3.length := by omega
                replace HO := Aside0.mk (show OB wr (w.heap.size + 1) _ (a5 ++ encS l3) by have := HO.out; unfold encS at this; rw [he] at this; exact this)
                replace HLA := Aside0.mk (show (a5 ++ encS l3).length ≤ 30000 + 200 * x.toNat by have := HLA.out; unfold encS at this; rw [he] at this; exact this)
                clear he
                have hc := cell_of_one HK.out
                go_wp2
                go_ret2
                exact ⟨_, _, 0, rfl, HO.out.lower (by omega), below_of_alloc HB.out, fun _ => ⟨by rw [encA, ← HE5.out, ← HE4.out, ← HE3.out, List.nil_append], rfl⟩, fun h => absurd HG.out h⟩

end Go.Proofs.Ytophfoenaekfjaa

namespace Go.Proofs.Ytophfoenaekfjaa
open Go.RowKit Go.Proofs.YtophfoenaekfjaaW.PrintWords Go.Proofs.YtophfoenaekfjaaW.PrintLast Go.Proofs.YtophfoenaekfjaaW.PrintMore Go.Proofs.Ytophfoenaekfjaa.PSnapEncodes
set_option linter.unusedVariables false
set_option linter.unusedSimpArgs false

/-- The reader's block: the bytes, the place, whether something wasn't there. -/
def RdB (W : World) (g : Nat) (A : Option Addr) (n c : Nat) (s : Int × Bool) : Prop := W.heap[g]? = some (.cells #[.slice A n c, .int .i64 s.1, .bool s.2] 113 (0, 0))
def rnum (l : List Int) (s : Int × Bool) : Int × (Int × Bool) := ((getI l s.1).1, ((getI l s.1).2.1, s.2 || (getI l s.1).2.2 != 0))
def rtext (l : List Int) (s : Int × Bool) : List Int × (Int × Bool) := ((getB l s.1 64).1, ((getB l s.1 64).2.1, s.2 || (getB l s.1 64).2.2 != 0))
theorem put2 {W : World} {g : Nat} {v0 v1 v2 : Value} {T : TypeId} (h : W.heap[g]? = some (.cells #[v0, v1, v2] T (0, 0))) (x y : Value) : ((W.setCell ⟨g, 1, none⟩ x).setCell ⟨g, 2, none⟩ y).heap[g]? = some (.cells #[v0, x, y] T (0, 0)) :=
  (blk_set (blk_set h 1 x) 2 y).trans rfl
structure PostN (W : World) (g : Nat) (A : Option Addr) (n c : Nat) (r : Int × (Int × Bool)) (e : Ending) (w' : World) : Prop where
  mk ::
  out : e = .returned (.int .i64 r.1) ∧ RdB w' g A n c r.2 ∧ Ch W w' (fun k => k = g)
structure PostT (W : World) (g : Nat) (A : Option Addr) (n c : Nat) (r : List Int × (Int × Bool)) (e : Ending) (w' : World) : Prop where
  mk ::
  out : ∃ v, e = .returned v ∧ OB w' W.heap.size v r.1 ∧ RdB w' g A n c r.2 ∧ Ch W w' (fun k => k = g)
set_option maxHeartbeats 4000000 in
set_option maxRecDepth 100000 in
theorem reader_num (g : Nat) (A : Option Addr) (c : Nat) (l : List Int) (s : Int × Bool) (W : World) (hb : RdB W g A l.length c s) (hr : CB W A l) (hc : l.length ≤ c) (hw : wfB l) (hs : 0 ≤ s.1 ∧ s.1 ≤ l.length) (hL : l.length ≤ 137438953472) :
    Calls Try.prog 72 #[.pointer (some ⟨g, 0, none⟩)] W (PostN W g A l.length c (rnum l s)) := by
  have HR := Aside0.mk hr
  have HW := Aside0.mk hw
  have HC := Aside0.mk hc
  have HBK := Aside0.mk hb
  have hc0 : W.cell? ⟨g, 0, none⟩ = some (.slice A l.length c) := (blk_cell hb 0).trans rfl
  have hc1 : W.cell? ⟨g, 1, none⟩ = some (.int .i64 s.1) := (blk_cell hb 1).trans rfl
  have hc2 : W.cell? ⟨g, 2, none⟩ = some (.bool s.2) := (blk_cell hb 2).trans rfl
  have hf1 := blk_frozen hb 1
  have hf2 := blk_frozen hb 2
  have hs0 := hs.1
  have hs1 := hs.2
  obtain ⟨a, bad⟩ := s
  simp only at hc1 hc2 hs0 hs1
  clear hr hw hc hb hs
  rcases getI_cases (a := a) HW.out with ⟨n, nx, h, h0, h1, h2, h3, h4⟩ | h
  · have HG := Aside0.mk h
    have HE := Aside0.mk (show rnum l (a, bad) = (n, (nx, bad)) by unfold rnum; rw [HG.out]; cases bad <;> rfl)
    clear h
    cases bad with
    | false =>
      go_enter Try.func72, Try.ntmps72
      go_wp2_with fail
      go_quiet (first | (go_at_call 112; exact (quiet_of_drawn ((octet_GetInt A c l a _ (Kd.C_below HR.out (pw_below_drewN (Below.refl _ _) _)) HC.out HW.out (by omega) (by omega)).mono (fun _ _ h => by rw [HG.out] at h; exact h)))))
      go_wp2
      go_ret
      exact ⟨by rw [HE.out]; exact ⟨rfl, put2 HBK.out _ _, ((Ch.below (Ch.refl W (fun k => k = g)) (pw_below_drewN (Below.refl _ _) _)).setCell _ _ (.inl rfl)).setCell _ _ (.inl rfl)⟩⟩
    | true =>
      go_enter Try.func72, Try.ntmps72
      go_wp2_with fail
      go_quiet (first | (go_at_call 112; exact (quiet_of_drawn ((octet_GetInt A c l a _ (Kd.C_below HR.out (pw_below_drewN (Below.refl _ _) _)) HC.out HW.out (by omega) (by omega)).mono (fun _ _ h => by rw [HG.out] at h; exact h)))))
      go_wp2
      go_ret
      exact ⟨by rw [HE.out]; exact ⟨rfl, put2 HBK.out _ _, ((Ch.below (Ch.refl W (fun k => k = g)) (pw_below_drewN (Below.refl _ _) _)).setCell _ _ (.inl rfl)).setCell _ _ (.inl rfl)⟩⟩
  · have HG := Aside0.mk h
    have HE := Aside0.mk (show rnum l (a, bad) = (0, (0, true)) by unfold rnum; rw [HG.out]; cases bad <;> rfl)
    clear h
    cases bad with
    | false =>
      go_enter Try.func72, Try.ntmps72
      go_wp2_with fail
      go_quiet (first | (go_at_call 112; exact (quiet_of_drawn ((octet_GetInt A c l a _ (Kd.C_below HR.out (pw_below_drewN (Below.refl _ _) _)) HC.out HW.out (by omega) (by omega)).mono (fun _ _ h => by rw [HG.out] at h; exact h)))))
      go_wp2
      go_ret
      exact ⟨by rw [HE.out]; exact ⟨rfl, put2 HBK.out _ _, ((Ch.below (Ch.refl W (fun k => k = g)) (pw_below_drewN (Below.refl _ _) _)).setCell _ _ (.inl rfl)).setCell _ _ (.inl rfl)⟩⟩
    | true =>
      go_enter Try.func72, Try.ntmps72
      go_wp2_with fail
      go_quiet (first | (go_at_call 112; exact (quiet_of_drawn ((octet_GetInt A c l a _ (Kd.C_below HR.out (pw_below_drewN (Below.refl _ _) _)) HC.out HW.out (by omega) (by omega)).mono (fun _ _ h => by rw [HG.out] at h; exact h)))))
      go_wp2
      go_ret
      exact ⟨by rw [HE.out]; exact ⟨rfl, put2 HBK.out _ _, ((Ch.below (Ch.refl W (fun k => k = g)) (pw_below_drewN (Below.refl _ _) _)).setCell _ _ (.inl rfl)).setCell _ _ (.inl rfl)⟩⟩
set_option maxHeartbeats 4000000 in
set_option maxRecDepth 100000 in
theorem reader_text (g : Nat) (A : Option Addr) (c : Nat) (l : List Int) (s : Int × Bool) (W : World) (hb : RdB W g A l.length c s) (hr : CB W A l) (hc : l.length ≤ c) (hw : wfB l) (hs : 0 ≤ s.1 ∧ s.1 ≤ l.length) (hL : l.length ≤ 137438953472) :
    Calls Try.prog 75 #[.pointer (some ⟨g, 0, none⟩)] W (PostT W g A l.length c (rtext l s)) := by
  have HR := Aside0.mk hr
  have HW := Aside0.mk hw
  have HC := Aside0.mk hc
  have HBK := Aside0.mk hb
  have hc0 : W.cell? ⟨g, 0, none⟩ = some (.slice A l.length c) := (blk_cell hb 0).trans rfl
  have hc1 : W.cell? ⟨g, 1, none⟩ = some (.int .i64 s.1) := (blk_cell hb 1).trans rfl
  have hc2 : W.cell? ⟨g, 2, none⟩ = some (.bool s.2) := (blk_cell hb 2).trans rfl
  have hf1 := blk_frozen hb 1
  have hf2 := blk_frozen hb 2
  have hs0 := hs.1
  have hs1 := hs.2
  obtain ⟨a, bad⟩ := s
  simp only at hc1 hc2 hs0 hs1
  clear hr hw hc hb hs
  rcases getB_cases (a := a) (most := 64) HW.out with ⟨p, nx, h, h0, h1, h2, h3, h4, h5⟩ | h
  · have HG := Aside0.mk h
    have HE := Aside0.mk (show rtext l (a, bad) = (p, (nx, bad)) by unfold rtext; rw [HG.out]; cases bad <;> rfl)
    clear h
    cases bad with
    | false =>
      go_enter Try.func75, Try.ntmps75
      go_wp2_with fail
      go_region_held3 (fun w' => w'.cell? ⟨g, 0, none⟩ = some (.slice A l.length c) ∧ w'.cell? ⟨g, 1, none⟩ = some (.int .i64 a)) (go_keep) (first | (go_at_call 113; (with_reducible refine (octet_GetBytes A c l a 64 _ ?hr HC.out HW.out ?ha ?hl ?hm).mono ?_); (case hr => exact (Kd.C_below HR.out (pw_below_drewN (Below.refl _ _) _))); (case ha => omega); (case hl => omega); (case hm => omega); rintro e w1 hp; obtain ⟨v1, rfl, ho, hb⟩ := hp.out; rw [HG.out] at ho ⊢; have HB1 := Aside0.mk (below_step (pw_below_drewN (Below.refl _ W) _) hb); have HO1 := Aside0.mk ho; have hs0 := pw_cell_below HB1.out hc0; have hs1 := pw_cell_below HB1.out hc1; clear ho hb))
      have hc2' := pw_cell_below HB1.out hc2
      have HBK1 := Aside0.mk (blk_below HBK.out HB1.out)
      have hf1' := blk_frozen HBK1.out 1
      have hf2' := blk_frozen HBK1.out 2
      clear hc0 hc1 hc2 hf1 hf2
      go_wp2
      go_ret
      exact ⟨_, rfl, by rw [HE.out]; exact (HO1.out.ch (((Ch.refl w1 (fun k => k = g)).setCell _ _ (.inl rfl)).setCell _ _ (.inl rfl)) (HO1.out.ne_blk HBK1.out (by decide))), by rw [HE.out]; exact put2 HBK1.out _ _, (((Ch.refl W (fun k => k = g)).below HB1.out).setCell _ _ (.inl rfl)).setCell _ _ (.inl rfl)⟩
    | true =>
      go_enter Try.func75, Try.ntmps75
      go_wp2_with fail
      go_region_held3 (fun w' => w'.cell? ⟨g, 0, none⟩ = some (.slice A l.length c) ∧ w'.cell? ⟨g, 1, none⟩ = some (.int .i64 a)) (go_keep) (first | (go_at_call 113; (with_reducible refine (octet_GetBytes A c l a 64 _ ?hr HC.out HW.out ?ha ?hl ?hm).mono ?_); (case hr => exact (Kd.C_below HR.out (pw_below_drewN (Below.refl _ _) _))); (case ha => omega); (case hl => omega); (case hm => omega); rintro e w1 hp; obtain ⟨v1, rfl, ho, hb⟩ := hp.out; rw [HG.out] at ho ⊢; have HB1 := Aside0.mk (below_step (pw_below_drewN (Below.refl _ W) _) hb); have HO1 := Aside0.mk ho; have hs0 := pw_cell_below HB1.out hc0; have hs1 := pw_cell_below HB1.out hc1; clear ho hb))
      have hc2' := pw_cell_below HB1.out hc2
      have HBK1 := Aside0.mk (blk_below HBK.out HB1.out)
      have hf1' := blk_frozen HBK1.out 1
      have hf2' := blk_frozen HBK1.out 2
      clear hc0 hc1 hc2 hf1 hf2
      go_wp2
      go_ret
      exact ⟨_, rfl, by rw [HE.out]; exact (HO1.out.ch (((Ch.refl w1 (fun k => k = g)).setCell _ _ (.inl rfl)).setCell _ _ (.inl rfl)) (HO1.out.ne_blk HBK1.out (by decide))), by rw [HE.out]; exact put2 HBK1.out _ _, (((Ch.refl W (fun k => k = g)).below HB1.out).setCell _ _ (.inl rfl)).setCell _ _ (.inl rfl)⟩
  · have HG := Aside0.mk h
    have HE := Aside0.mk (show rtext l (a, bad) = ([], (0, true)) by unfold rtext; rw [HG.out]; cases bad <;> rfl)
    clear h
    cases bad with
    | false =>
      go_enter Try.func75, Try.ntmps75
      go_wp2_with fail
      go_region_held3 (fun w' => w'.cell? ⟨g, 0, none⟩ = some (.slice A l.length c) ∧ w'.cell? ⟨g, 1, none⟩ = some (.int .i64 a)) (go_keep) (first | (go_at_call 113; (with_reducible refine (octet_GetBytes A c l a 64 _ ?hr HC.out HW.out ?ha ?hl ?hm).mono ?_); (case hr => exact (Kd.C_below HR.out (pw_below_drewN (Below.refl _ _) _))); (case ha => omega); (case hl => omega); (case hm => omega); rintro e w1 hp; obtain ⟨v1, rfl, ho, hb⟩ := hp.out; rw [HG.out] at ho ⊢; have HB1 := Aside0.mk (below_step (pw_below_drewN (Below.refl _ W) _) hb); have HO1 := Aside0.mk ho; have hs0 := pw_cell_below HB1.out hc0; have hs1 := pw_cell_below HB1.out hc1; clear ho hb))
      have hc2' := pw_cell_below HB1.out hc2
      have HBK1 := Aside0.mk (blk_below HBK.out HB1.out)
      have hf1' := blk_frozen HBK1.out 1
      have hf2' := blk_frozen HBK1.out 2
      clear hc0 hc1 hc2 hf1 hf2
      go_wp2
      go_ret
      exact ⟨_, rfl, by rw [HE.out]; exact (HO1.out.ch (((Ch.refl w1 (fun k => k = g)).setCell _ _ (.inl rfl)).setCell _ _ (.inl rfl)) (HO1.out.ne_blk HBK1.out (by decide))), by rw [HE.out]; exact put2 HBK1.out _ _, (((Ch.refl W (fun k => k = g)).below HB1.out).setCell _ _ (.inl rfl)).setCell _ _ (.inl rfl)⟩
    | true =>
      go_enter Try.func75, Try.ntmps75
      go_wp2_with fail
      go_region_held3 (fun w' => w'.cell? ⟨g, 0, none⟩ = some (.slice A l.length c) ∧ w'.cell? ⟨g, 1, none⟩ = some (.int .i64 a)) (go_keep) (first | (go_at_call 113; (with_reducible refine (octet_GetBytes A c l a 64 _ ?hr HC.out HW.out ?ha ?hl ?hm).mono ?_); (case hr => exact (Kd.C_below HR.out (pw_below_drewN (Below.refl _ _) _))); (case ha => omega); (case hl => omega); (case hm => omega); rintro e w1 hp; obtain ⟨v1, rfl, ho, hb⟩ := hp.out; rw [HG.out] at ho ⊢; have HB1 := Aside0.mk (below_step (pw_below_drewN (Below.refl _ W) _) hb); have HO1 := Aside0.mk ho; have hs0 := pw_cell_below HB1.out hc0; have hs1 := pw_cell_below HB1.out hc1; clear ho hb))
      have hc2' := pw_cell_below HB1.out hc2
      have HBK1 := Aside0.mk (blk_below HBK.out HB1.out)
      have hf1' := blk_frozen HBK1.out 1
      have hf2' := blk_frozen HBK1.out 2
      clear hc0 hc1 hc2 hf1 hf2
      go_wp2
      go_ret
      exact ⟨_, rfl, by rw [HE.out]; exact (HO1.out.ch (((Ch.refl w1 (fun k => k = g)).setCell _ _ (.inl rfl)).setCell _ _ (.inl rfl)) (HO1.out.ne_blk HBK1.out (by decide))), by rw [HE.out]; exact put2 HBK1.out _ _, (((Ch.refl W (fun k => k = g)).below HB1.out).setCell _ _ (.inl rfl)).setCell _ _ (.inl rfl)⟩

end Go.Proofs.Ytophfoenaekfjaa

namespace Go.Proofs.Ytophfoenaekfjaa
open Go.RowKit Go.Proofs.YtophfoenaekfjaaW.PrintWords Go.Proofs.YtophfoenaekfjaaW.PrintLast Go.Proofs.YtophfoenaekfjaaW.PrintMore Go.Proofs.Ytophfoenaekfjaa.PSnapEncodes
set_option linter.unusedVariables false
set_option linter.unusedSimpArgs false

/-- What lies in the blocks while snap.Decode reads. -/
structure Inv (w : World) (gv gr ga : Nat) (A : Option Addr) (c : Nat) (l : List Int) (m : Int) (s : Int × Bool) (v1 v2 v3 : Value) (es : List S72) (ls : List S87) (ss : List S97) (W : World) : Prop where
  vb : W.heap[gv]? = some (.cells #[.pointer (some ⟨gr, 0, none⟩)] 111 (0, 0))
  rb : RdB W gr A l.length c s
  ab : W.heap[ga]? = some (.cells #[.int .i64 m, v1, v2, v3] 26 (0, 0))
  r1 : Kd.S k72 72 W w.heap.size (fun _ => True) v1 es
  r2 : Kd.S k87 87 W w.heap.size (fun _ => True) v2 ls
  r3 : Kd.S k97 97 W w.heap.size (fun _ => True) v3 ss
  below : Below w.heap.size w W
  hv : w.heap.size ≤ gv
  hr : w.heap.size ≤ gr
  ha : w.heap.size ≤ ga
  pl : 0 ≤ s.1 ∧ s.1 ≤ l.length
section
variable {w W W' : World} {gv gr ga : Nat} {A : Option Addr} {c : Nat} {l : List Int} {m : Int} {s s' : Int × Bool} {v1 v2 v3 : Value} {es : List S72} {ls : List S87} {ss : List S97}
theorem Ch.onto {B : Nat} {S : Nat → Prop} (h : Below B w W) (k : Ch W W' S) (hS : ∀ i, S i → B ≤ i) (hB : B ≤ W.heap.size) : Below B w W' :=
  ⟨k.os.trans h.os, k.tape.trans h.tape, k.output.trans h.output, Nat.le_trans h.size k.size, fun i hi => (k.block i (by omega) (fun hs => by have := hS i hs; omega)).trans (h.block i hi)⟩
theorem Inv.size (h : Inv w gv gr ga A c l m s v1 v2 v3 es ls ss W) : w.heap.size ≤ W.heap.size := h.below.size
theorem S_ch {α : Type} {d : Kd α} {e base g t : Nat} {ok : Nat → Prop} {v : Value} {xs : List α} {cells : Array Value} (h : Kd.S d e W base ok v xs) (hb : W.heap[g]? = some (.cells cells t (0, 0))) (ht : ∀ q, q ∈ e :: d.E → q ≠ t) (hc : Ch W W' (fun k => k = g)) : Kd.S d e W' base ok v xs :=
  Kd.S_mono (Kd.S_step (Kd.S_types h hb ht) (fun k hk hlt => hc.block k hlt hk.2)) (fun _ hk => hk.1)
/-- The reader alone has changed. -/
theorem Inv.read (h : Inv w gv gr ga A c l m s v1 v2 v3 es ls ss W) (hc : Ch W W' (fun k => k = gr)) (hb : RdB W' gr A l.length c s') (hp : 0 ≤ s'.1 ∧ s'.1 ≤ l.length) : Inv w gv gr ga A c l m s' v1 v2 v3 es ls ss W' where
  vb := hc.blk h.vb (blk_ne h.vb h.rb (by decide))
  rb := hb
  ab := hc.blk h.ab (blk_ne h.ab h.rb (by decide))
  r1 := S_ch h.r1 h.rb (by decide) hc
  r2 := S_ch h.r2 h.rb (by decide) hc
  r3 := S_ch h.r3 h.rb (by decide) hc
  below := Ch.onto h.below hc (fun i hi => hi ▸ h.hr) h.size
  hv := h.hv
  hr := h.hr
  ha := h.ha
  pl := hp
theorem Inv.later (h : Inv w gv gr ga A c l m s v1 v2 v3 es ls ss W) (hb : Below W.heap.size W W') : Inv w gv gr ga A c l m s v1 v2 v3 es ls ss W' where
  vb := blk_below h.vb hb
  rb := blk_below h.rb hb
  ab := blk_below h.ab hb
  r1 := Kd.S_below h.r1 hb
  r2 := Kd.S_below h.r2 hb
  r3 := Kd.S_below h.r3 hb
  below := below_step h.below hb
  hv := h.hv
  hr := h.hr
  ha := h.ha
  pl := h.pl
theorem Inv.put1 {v' : Value} {es' : List S72} (h : Inv w gv gr ga A c l m s v1 v2 v3 es ls ss W) (hg : W.grownBy W' v1.ownBlock) (hr : Kd.S k72 72 W' w.heap.size (fun _ => True) v' es') : Inv w gv gr ga A c l m s v' v2 v3 es' ls ss (W'.setCell ⟨ga, 1, none⟩ v') where
  vb := blk_far (blk_grown h.vb hg (Kd.S_ne h.r1 h.vb (by decide))) (p := ⟨ga, 1, none⟩) (blk_ne h.vb h.ab (by decide)) v'
  rb := blk_far (blk_grown h.rb hg (Kd.S_ne h.r1 h.rb (by decide))) (p := ⟨ga, 1, none⟩) (blk_ne h.rb h.ab (by decide)) v'
  ab := (blk_set (blk_grown h.ab hg (Kd.S_ne h.r1 h.ab (by decide))) 1 v').trans rfl
  r1 := Kd.S_set hr (blk_grown h.ab hg (Kd.S_ne h.r1 h.ab (by decide))) (by decide) _ _
  r2 := Kd.S_set (Kd.S_over' h.r2 (Kd.S_typed h.r1) (by decide) hg) (blk_grown h.ab hg (Kd.S_ne h.r1 h.ab (by decide))) (by decide) _ _
  r3 := Kd.S_set (Kd.S_over' h.r3 (Kd.S_typed h.r1) (by decide) hg) (blk_grown h.ab hg (Kd.S_ne h.r1 h.ab (by decide))) (by decide) _ _
  below := below_set (pw_below_grown h.below _ h.size hg (Kd.S_base h.r1)) h.ha
  hv := h.hv
  hr := h.hr
  ha := h.ha
  pl := h.pl
theorem Inv.put2 {v' : Value} {ls' : List S87} (h : Inv w gv gr ga A c l m s v1 v2 v3 es ls ss W) (hg : W.grownBy W' v2.ownBlock) (hr : Kd.S k87 87 W' w.heap.size (fun _ => True) v' ls') : Inv w gv gr ga A c l m s v1 v' v3 es ls' ss (W'.setCell ⟨ga, 2, none⟩ v') where
  vb := blk_far (blk_grown h.vb hg (Kd.S_ne h.r2 h.vb (by decide))) (p := ⟨ga, 2, none⟩) (blk_ne h.vb h.ab (by decide)) v'
  rb := blk_far (blk_grown h.rb hg (Kd.S_ne h.r2 h.rb (by decide))) (p := ⟨ga, 2, none⟩) (blk_ne h.rb h.ab (by decide)) v'
  ab := (blk_set (blk_grown h.ab hg (Kd.S_ne h.r2 h.ab (by decide))) 2 v').trans rfl
  r1 := Kd.S_set (Kd.S_over' h.r1 (Kd.S_typed h.r2) (by decide) hg) (blk_grown h.ab hg (Kd.S_ne h.r2 h.ab (by decide))) (by decide) _ _
  r2 := Kd.S_set hr (blk_grown h.ab hg (Kd.S_ne h.r2 h.ab (by decide))) (by decide) _ _
  r3 := Kd.S_set (Kd.S_over' h.r3 (Kd.S_typed h.r2) (by decide) hg) (blk_grown h.ab hg (Kd.S_ne h.r2 h.ab (by decide))) (by decide) _ _
  below := below_set (pw_below_grown h.below _ h.size hg (Kd.S_base h.r2)) h.ha
  hv := h.hv
  hr := h.hr
  ha := h.ha
  pl := h.pl
theorem Inv.put3 {v' : Value} {ss' : List S97} (h : Inv w gv gr ga A c l m s v1 v2 v3 es ls ss W) (hg : W.grownBy W' v3.ownBlock) (hr : Kd.S k97 97 W' w.heap.size (fun _ => True) v' ss') : Inv w gv gr ga A c l m s v1 v2 v' es ls ss' (W'.setCell ⟨ga, 3, none⟩ v') where
  vb := blk_far (blk_grown h.vb hg (Kd.S_ne h.r3 h.vb (by decide))) (p := ⟨ga, 3, none⟩) (blk_ne h.vb h.ab (by decide)) v'
  rb := blk_far (blk_grown h.rb hg (Kd.S_ne h.r3 h.rb (by decide))) (p := ⟨ga, 3, none⟩) (blk_ne h.rb h.ab (by decide)) v'
  ab := (blk_set (blk_grown h.ab hg (Kd.S_ne h.r3 h.ab (by decide))) 3 v').trans rfl
  r1 := Kd.S_set (Kd.S_over' h.r1 (Kd.S_typed h.r3) (by decide) hg) (blk_grown h.ab hg (Kd.S_ne h.r3 h.ab (by decide))) (by decide) _ _
  r2 := Kd.S_set (Kd.S_over' h.r2 (Kd.S_typed h.r3) (by decide) hg) (blk_grown h.ab hg (Kd.S_ne h.r3 h.ab (by decide))) (by decide) _ _
  r3 := Kd.S_set hr (blk_grown h.ab hg (Kd.S_ne h.r3 h.ab (by decide))) (by decide) _ _
  below := below_set (pw_below_grown h.below _ h.size hg (Kd.S_base h.r3)) h.ha
  hv := h.hv
  hr := h.hr
  ha := h.ha
  pl := h.pl
/-- An elder row, behind reads: its blocks are elder. -/
theorem S_older {α : Type} {d : Kd α} {e base g t : Nat} {v : Value} {xs : List α} {cells : Array Value} (h : Kd.S d e W base (fun _ => True) v xs) (hb : W.heap[g]? = some (.cells cells t (0, 0))) (ht : ∀ q, q ∈ e :: d.E → q ≠ t) (hc : Ch W W' (fun k => k = g)) : Kd.S d e W' base (fun k => k < W.heap.size) v xs :=
  Kd.S_mono (Kd.S_step (Kd.S_bound (Kd.S_types h hb ht)) (fun k hk hlt => hc.block k hlt hk.1.2)) (fun _ hk => hk.2.2.1)
theorem OB.at_ {base N : Nat} {v : Value} {xs : List Int} (h : OB W N v xs) (hN : base ≤ N) : (Kd.int .u8).R 5 W base (fun k => N ≤ k) v xs :=
  Kd.R_lower (Kd.R_mono (Kd.R_bound h.out) (fun _ hk => hk.2.1)) hN
end
theorem rnum_pl {l : List Int} {s : Int × Bool} (hw : wfB l) (hs : 0 ≤ s.1 ∧ s.1 ≤ l.length) : 0 ≤ (rnum l s).2.1 ∧ (rnum l s).2.1 ≤ l.length := by
  rcases getI_cases (a := s.1) hw with ⟨n, nx, h, h0, h1, h2, h3, h4⟩ | h
  · unfold rnum; rw [h]; exact ⟨by show 0 ≤ nx; omega, h4⟩
  · unfold rnum; rw [h]; exact ⟨by show (0 : Int) ≤ 0; omega, by show (0 : Int) ≤ l.length; omega⟩
theorem rtext_pl {l : List Int} {s : Int × Bool} (hw : wfB l) (hs : 0 ≤ s.1 ∧ s.1 ≤ l.length) : 0 ≤ (rtext l s).2.1 ∧ (rtext l s).2.1 ≤ l.length := by
  rcases getB_cases (a := s.1) (most := 64) hw with ⟨p, nx, h, h0, h1, h2, h3, h4, h5⟩ | h
  · unfold rtext; rw [h]; exact ⟨by show 0 ≤ nx; omega, h5⟩
  · unfold rtext; rw [h]; exact ⟨by show (0 : Int) ≤ 0; omega, by show (0 : Int) ≤ l.length; omega⟩
section
variable {w W : World} {gv gr ga : Nat} {A : Option Addr} {c : Nat} {l : List Int} {m : Int} {s : Int × Bool} {v1 v2 v3 : Value} {es : List S72} {ls : List S87} {ss : List S97}
structure PostIN (w : World) (gv gr ga : Nat) (A : Option Addr) (c : Nat) (l : List Int) (m : Int) (s : Int × Bool) (v1 v2 v3 : Value) (es : List S72) (ls : List S87) (ss : List S97) (W : World) (e : Ending) (w' : World) : Prop where
  mk ::
  out : e = .returned (.int .i64 (rnum l s).1) ∧ Inv w gv gr ga A c l m (rnum l s).2 v1 v2 v3 es ls ss w' ∧ Ch W w' (fun k => k = gr)
structure PostIT (w : World) (gv gr ga : Nat) (A : Option Addr) (c : Nat) (l : List Int) (m : Int) (s : Int × Bool) (v1 v2 v3 : Value) (es : List S72) (ls : List S87) (ss : List S97) (W : World) (e : Ending) (w' : World) : Prop where
  mk ::
  out : ∃ v, e = .returned v ∧ OB w' W.heap.size v (rtext l s).1 ∧ Inv w gv gr ga A c l m (rtext l s).2 v1 v2 v3 es ls ss w' ∧ Ch W w' (fun k => k = gr)
theorem inv_num (h : Inv w gv gr ga A c l m s v1 v2 v3 es ls ss W) (hr : CB w A l) (hc : l.length ≤ c) (hw : wfB l) (hL : l.length ≤ 137438953472) :
    Calls Try.prog 72 #[.pointer (some ⟨gr, 0, none⟩)] W (PostIN w gv gr ga A c l m s v1 v2 v3 es ls ss W) :=
  (reader_num gr A c l s W h.rb (Kd.C_below hr h.below) hc hw h.pl hL).mono fun _ _ hp => ⟨hp.out.1, h.read hp.out.2.2 hp.out.2.1 (rnum_pl hw h.pl), hp.out.2.2⟩
theorem inv_text (h : Inv w gv gr ga A c l m s v1 v2 v3 es ls ss W) (hr : CB w A l) (hc : l.length ≤ c) (hw : wfB l) (hL : l.length ≤ 137438953472) :
    Calls Try.prog 75 #[.pointer (some ⟨gr, 0, none⟩)] W (PostIT w gv gr ga A c l m s v1 v2 v3 es ls ss W) :=
  (reader_text gr A c l s W h.rb (Kd.C_below hr h.below) hc hw h.pl hL).mono fun _ _ hp => by
    obtain ⟨v, he, ho, hb, hc⟩ := hp.out
    exact ⟨v, he, ho, h.read hc hb (rtext_pl hw h.pl), hc⟩
end

end Go.Proofs.Ytophfoenaekfjaa

