/- Parts of the proof of SnapEncodes: snap.Decode's first closure. snap.Decode's second and third closure. snap.Decode's loops. snap.Decode. The document's reader. -/
import Derived.Test.YtophfoenaekfjaaSnapEncodesm4
import Derived.Outline
import Derived.Deep.RegionLaw
namespace Go.Proofs.Ytophfoenaekfjaa
open Go.RowKit Go.Proofs.YtophfoenaekfjaaW.PrintWords Go.Proofs.YtophfoenaekfjaaW.PrintLast Go.Proofs.YtophfoenaekfjaaW.PrintMore Go.Proofs.Ytophfoenaekfjaa.PSnapEncodes
set_option linter.unusedVariables false
set_option linter.unusedSimpArgs false

structure PostC1 (w : World) (gv gr ga : Nat) (A : Option Addr) (c : Nat) (l : List Int) (m : Int) (s : Int × Bool) (v2 v3 : Value) (es : List S72) (ls : List S87) (ss : List S97) (e : Ending) (w' : World) : Prop where
  mk ::
  out : ∃ v', e = .returned (.tuple #[]) ∧ Inv w gv gr ga A c l m (rtext l (rtext l s).2).2 v' v2 v3 (es ++ [⟨(rtext l s).1, (rtext l (rtext l s).2).1⟩]) ls ss w'
set_option maxHeartbeats 4000000 in
set_option maxRecDepth 100000 in
theorem decode_entry (w W : World) (gv gr ga : Nat) (A : Option Addr) (c : Nat) (l : List Int) (m : Int) (s : Int × Bool) (v1 v2 v3 : Value) (es : List S72) (ls : List S87) (ss : List S97) (hI : Inv w gv gr ga A c l m s v1 v2 v3 es ls ss W) (hr : CB w A l) (hc : l.length ≤ c) (hw : wfB l) (hL : l.length ≤ 137438953472) (hn : es.length ≤ 1000000000000) (hn2 : ls.length ≤ 1000000000000) (hn3 : ss.length ≤ 1000000000000) :
    Calls Try.prog 74 #[.pointer (some ⟨gv, 0, none⟩), .pointer (some ⟨ga, 0, none⟩)] W (PostC1 w gv gr ga A c l m s v2 v3 es ls ss) := by
  have HI := Aside0.mk hI
  have HR := Aside0.mk hr
  have HW := Aside0.mk hw
  obtain ⟨Ao, co, eo⟩ := Kd.S_slice hI.r1
  subst eo
  clear hI hr hw
  have hv0 : W.cell? ⟨gv, 0, none⟩ = some (.pointer (some ⟨gr, 0, none⟩)) := (blk_cell HI.out.vb 0).trans rfl
  go_enter Try.func74, Try.ntmps74
  go_wp2_with fail
  refine (inv_text HI.out HR.out hc HW.out hL).mono ?_
  rintro e w1 hp
  obtain ⟨u, rfl, ho, hi, hch⟩ := hp.out
  obtain ⟨b1, hb, ho⟩ := ho.named
  obtain ⟨A1, c1, rfl, hcc, hrr⟩ := ho.reads
  have HE1 := Aside0.mk hb
  have HO1 := Aside0.mk ho
  have HI1 := Aside0.mk hi
  have HC1 := Aside0.mk hch
  clear ho hi hch hb hcc hrr
  clear hv0
  have hv01 : w1.cell? ⟨gv, 0, none⟩ = some (.pointer (some ⟨gr, 0, none⟩)) := (blk_cell HI1.out.vb 0).trans rfl
  have hx1 : w1.cell? ⟨ga, 1, none⟩ = some (.slice Ao es.length co) := (blk_cell HI1.out.ab 1).trans rfl
  have hfx1 := blk_frozen HI1.out.ab 1
  go_wp2_with fail
  go_region_law (first | (refine Kd.S_append_step k72 (w0 := w) (W := w2) w.heap.size rfl (.tmp 6) (.tmp 11) 22 72 (.agg #[.slice none 0 0, .slice none 0 0]) 48 rfl Try.underlying22 info72 rfl (by decide) (by omega) (.slice Ao es.length co) es (⟨b1, b2⟩ : S72) [.slice A1 b1.length c1, .slice A2 b2.length c2] (fun _ => True) (fun k => W.heap.size ≤ k) rfl rfl ?aP ?aK (fun _ _ => trivial) ?aO ?aB ?aS ?aL ?_; (case aP => exact k72_mkM _ _ _ _ (OB.at_ (HO1.out.ch HC2'.out (HO1.out.ne_blk HI1.out.rb (by decide))) HI.out.size) (Kd.R_mono (OB.at_ HO2.out (Nat.le_trans HI.out.size HC1.out.size)) (fun _ hk => Nat.le_trans HC1.out.size hk))); (case aK => exact (fun k hk => ⟨trivial, fun e => by have := Kd.S_lt HI.out.r1 k e.symm; omega⟩)); (case aO => exact Kd.S_mono (S_older HI.out.r1 HI.out.rb (by decide) HC12.out) (fun k hk => ⟨trivial, by omega⟩)); (case aB => exact HI2.out.below); (case aS => exact HI2.out.size); (case aL => omega); intro v4 w4 ho hb hg hat; obtain ⟨ys, hys⟩ : ∃ ys, es ++ [(⟨b1, b2⟩ : S72)] = ys := ⟨_, rfl⟩; rw [hys] at ho; have HY := Aside0.mk hys; clear hys; obtain ⟨A4, c4, rfl⟩ := Kd.S_slice ho; have HI4 := Aside0.mk (HI2.out.put1 hg ho); have hx4 := (blk_cell (blk_grown HI2.out.ab hg (Kd.S_ne HI2.out.r1 HI2.out.ab (by decide))) 1).trans rfl; have hfx4 := blk_frozen (blk_grown HI2.out.ab hg (Kd.S_ne HI2.out.r1 HI2.out.ab (by decide))) 1; clear ho hb hg hat) | (go_simp; go_at_call 75; refine (inv_text (HI1.out.later (by repeat (first | exact Below.refl _ _ | apply below_drew | apply pw_below_drewN))) HR.out hc HW.out hL).mono ?_; rintro e w2 hp; obtain ⟨u, rfl, ho, hi, hch⟩ := hp.out; obtain ⟨b2, hb, ho⟩ := ho.named; obtain ⟨A2, c2, rfl, hcc, hrr⟩ := ho.reads; have HE2 := Aside0.mk hb; have HO2 := Aside0.mk ho; have HI2 := Aside0.mk hi; have HC2 := Aside0.mk hch; clear ho hi hch hb hcc hrr; have HN := Aside0.mk (Nat.le_trans HI.out.below.size HC1.out.size); have hv02 : w2.cell? ⟨gv, 0, none⟩ = some (.pointer (some ⟨gr, 0, none⟩)) := (blk_cell HI2.out.vb 0).trans rfl; have hx2 : w2.cell? ⟨ga, 1, none⟩ = some (.slice Ao es.length co) := (blk_cell HI2.out.ab 1).trans rfl; have hfx2 := blk_frozen HI2.out.ab 1; have HC2' := Aside0.mk (show Ch w1 w2 (fun k => k = gr) from (Ch.below (Ch.refl _ _) (by repeat (first | exact Below.refl _ _ | apply below_drew | apply pw_below_drewN))).trans HC2.out (fun i hi => .inl hi)); have HC12 := Aside0.mk (HC1.out.trans HC2'.out (fun i hi => .inl hi)); have hx2a := pw_cell_below (below_alloc (Below.refl _ w2) (.cells #[.slice A1 b1.length c1, .slice A2 b2.length c2] 72)) hx2))
  all_goals
    go_wp2
    go_end0
    exact ⟨_, rfl, by rw [HE1.out, HE2.out, HY.out]; exact HI4.out⟩

end Go.Proofs.Ytophfoenaekfjaa

namespace Go.Proofs.Ytophfoenaekfjaa
open Go.RowKit Go.Proofs.YtophfoenaekfjaaW.PrintWords Go.Proofs.YtophfoenaekfjaaW.PrintLast Go.Proofs.YtophfoenaekfjaaW.PrintMore Go.Proofs.Ytophfoenaekfjaa.PSnapEncodes
set_option linter.unusedVariables false
set_option linter.unusedSimpArgs false
structure PostC2 (w : World) (gv gr ga : Nat) (A : Option Addr) (c : Nat) (l : List Int) (m : Int) (s : Int × Bool) (v1 v3 : Value) (es : List S72) (ls : List S87) (ss : List S97) (e : Ending) (w' : World) : Prop where
  mk ::
  out : ∃ v', e = .returned (.tuple #[]) ∧ Inv w gv gr ga A c l m (rnum l (rnum l (rtext l s).2).2).2 v1 v' v3 es (ls ++ [⟨(rtext l s).1, (rnum l (rtext l s).2).1, (rnum l (rnum l (rtext l s).2).2).1⟩]) ss w'
set_option maxHeartbeats 4000000 in
set_option maxRecDepth 100000 in
theorem decode_lease (w W : World) (gv gr ga : Nat) (A : Option Addr) (c : Nat) (l : List Int) (m : Int) (s : Int × Bool) (v1 v2 v3 : Value) (es : List S72) (ls : List S87) (ss : List S97) (hI : Inv w gv gr ga A c l m s v1 v2 v3 es ls ss W) (hr : CB w A l) (hc : l.length ≤ c) (hw : wfB l) (hL : l.length ≤ 137438953472) (hn : es.length ≤ 1000000000000) (hn2 : ls.length ≤ 1000000000000) (hn3 : ss.length ≤ 1000000000000) :
    Calls Try.prog 76 #[.pointer (some ⟨gv, 0, none⟩), .pointer (some ⟨ga, 0, none⟩)] W (PostC2 w gv gr ga A c l m s v1 v3 es ls ss) := by
  have HI := Aside0.mk hI
  have HR := Aside0.mk hr
  have HW := Aside0.mk hw
  obtain ⟨Ao, co, eo⟩ := Kd.S_slice hI.r2
  subst eo
  clear hI hr hw
  have hv0 : W.cell? ⟨gv, 0, none⟩ = some (.pointer (some ⟨gr, 0, none⟩)) := (blk_cell HI.out.vb 0).trans rfl
  go_enter Try.func76, Try.ntmps76
  go_wp2_with fail
  refine (inv_text HI.out HR.out hc HW.out hL).mono ?_
  rintro e w1 hp
  obtain ⟨u, rfl, ho, hi, hch⟩ := hp.out
  obtain ⟨b1, hb, ho⟩ := ho.named
  obtain ⟨A1, c1, rfl, hcc, hrr⟩ := ho.reads
  have HE1 := Aside0.mk hb
  have HO1 := Aside0.mk ho
  clear ho hb hcc hrr
  have HI1 := Aside0.mk hi
  have HC1 := Aside0.mk hch
  clear hi hch hv0
  obtain ⟨gx, hgx⟩ : ∃ gx, gx = w1.heap.size := ⟨_, rfl⟩
  obtain ⟨W1, hW1⟩ : ∃ W1, W1 = w1.alloc (.cells #[.slice A1 b1.length c1, .int .i64 0, .int .i64 0] 87) := ⟨_, rfl⟩
  have HB1 : Aside0 (W1.heap[gx]? = some (.cells #[.slice A1 b1.length c1, .int .i64 0, .int .i64 0] 87 (0, 0))) := ⟨by rw [hW1, hgx]; exact blk_new w1 _⟩
  have HX1 : Aside0 (Below w1.heap.size w1 W1) := ⟨by rw [hW1]; exact below_alloc (Below.refl _ _) _⟩
  have HD1 := Aside0.mk (HC1.out.below HX1.out)
  have HJ1 := Aside0.mk (HI1.out.later HX1.out)
  have HG := Aside0.mk (show W.heap.size ≤ gx by rw [hgx]; exact HC1.out.size)
  have HOW1 := Aside0.mk (HO1.out.below HX1.out)
  have HOB := Aside0.mk (Nat.le_refl W.heap.size)
  have hv1 : (w1.alloc (.cells #[.slice A1 b1.length c1, .int .i64 0, .int .i64 0] 87)).cell? ⟨gv, 0, none⟩ = some (.pointer (some ⟨gr, 0, none⟩)) := by rw [← hW1]; exact (blk_cell HJ1.out.vb 0).trans rfl
  go_wp2_with fail
  rw [← hW1]
  try rw [← hgx]
  clear hv1 hW1 hgx
  refine (inv_num HJ1.out HR.out hc HW.out hL).mono ?_
  rintro e w2 hp
  obtain ⟨he, hi, hch⟩ := hp.out
  subst he
  obtain ⟨b2, hb⟩ : ∃ b, (rnum l (rtext l s).2).1 = b := ⟨_, rfl⟩
  rw [hb]
  have HE2 := Aside0.mk hb
  clear hb
  have HK2 := Aside0.mk (hch.blk HB1.out (blk_ne HB1.out HJ1.out.rb (by decide)))
  have HC2 := Aside0.mk (HD1.out.trans hch (fun i hi => .inl hi))
  have HI2 := Aside0.mk hi
  have HCx2 := Aside0.mk hch
  clear hi hch
  have hb2 := (blk_cell HK2.out 1).trans rfl
  have hf2 := blk_frozen HK2.out 1
  obtain ⟨W2, hW2⟩ : ∃ W', W' = w2.setCell ⟨gx, 1, none⟩ (.int .i64 b2) := ⟨_, rfl⟩
  have HB2 : Aside0 (W2.heap[gx]? = some (.cells #[.slice A1 b1.length c1, .int .i64 b2, .int .i64 0] 87 (0, 0))) := ⟨by rw [hW2]; exact (blk_set HK2.out 1 _).trans rfl⟩
  have HD2 : Aside0 (Ch W W2 (fun k => k = gr)) := ⟨by rw [hW2]; exact HC2.out.setCell _ _ (.inr HG.out)⟩
  have HJ2 := Aside0.mk (HI.out.read HD2.out (s' := _) (by rw [hW2]; exact blk_far HI2.out.rb (p := ⟨gx, 1, none⟩) (fun e => (blk_ne HK2.out HI2.out.rb (by decide)) e.symm) _) HI2.out.pl)
  have HOW2 := Aside0.mk (show OB W2 _ _ _ by rw [hW2]; exact (HOW1.out.ch (HCx2.out) (HOW1.out.ne_blk HJ1.out.rb (by decide))).ch ((Ch.refl w2 (fun k => k = gx)).setCell _ _ (.inl rfl)) ((HOW1.out.ch (HCx2.out) (HOW1.out.ne_blk HJ1.out.rb (by decide))).ne_blk HK2.out (by decide)))
  have hv2 : (w2.setCell ⟨gx, 1, none⟩ (.int .i64 b2)).cell? ⟨gv, 0, none⟩ = some (.pointer (some ⟨gr, 0, none⟩)) := by rw [← hW2]; exact (blk_cell HJ2.out.vb 0).trans rfl
  go_wp2_with fail
  rw [← hW2]
  clear hv2 hW2
  refine (inv_num HJ2.out HR.out hc HW.out hL).mono ?_
  rintro e w3 hp
  obtain ⟨he, hi, hch⟩ := hp.out
  subst he
  obtain ⟨b3, hb⟩ : ∃ b, (rnum l (rnum l (rtext l s).2).2).1 = b := ⟨_, rfl⟩
  rw [hb]
  have HE3 := Aside0.mk hb
  clear hb
  have HK3 := Aside0.mk (hch.blk HB2.out (blk_ne HB2.out HJ2.out.rb (by decide)))
  have HC3 := Aside0.mk (HD2.out.trans hch (fun i hi => .inl hi))
  have HI3 := Aside0.mk hi
  have HCx3 := Aside0.mk hch
  clear hi hch
  have hb3 := (blk_cell HK3.out 2).trans rfl
  have hf3 := blk_frozen HK3.out 2
  obtain ⟨W3, hW3⟩ : ∃ W', W' = w3.setCell ⟨gx, 2, none⟩ (.int .i64 b3) := ⟨_, rfl⟩
  have HB3 : Aside0 (W3.heap[gx]? = some (.cells #[.slice A1 b1.length c1, .int .i64 b2, .int .i64 b3] 87 (0, 0))) := ⟨by rw [hW3]; exact (blk_set HK3.out 2 _).trans rfl⟩
  have HD3 : Aside0 (Ch W W3 (fun k => k = gr)) := ⟨by rw [hW3]; exact HC3.out.setCell _ _ (.inr HG.out)⟩
  have HJ3 := Aside0.mk (HI.out.read HD3.out (s' := _) (by rw [hW3]; exact blk_far HI3.out.rb (p := ⟨gx, 2, none⟩) (fun e => (blk_ne HK3.out HI3.out.rb (by decide)) e.symm) _) HI3.out.pl)
  have HOW3 := Aside0.mk (show OB W3 _ _ _ by rw [hW3]; exact (HOW2.out.ch (HCx3.out) (HOW2.out.ne_blk HJ2.out.rb (by decide))).ch ((Ch.refl w3 (fun k => k = gx)).setCell _ _ (.inl rfl)) ((HOW2.out.ch (HCx3.out) (HOW2.out.ne_blk HJ2.out.rb (by decide))).ne_blk HK3.out (by decide)))
  have hv3 : (w3.setCell ⟨gx, 2, none⟩ (.int .i64 b3)).cell? ⟨gv, 0, none⟩ = some (.pointer (some ⟨gr, 0, none⟩)) := by rw [← hW3]; exact (blk_cell HJ3.out.vb 0).trans rfl
  have hz0 : (w3.setCell ⟨gx, 2, none⟩ (.int .i64 b3)).cell? ⟨gx, 0, none⟩ = some (.slice A1 b1.length c1) := by rw [← hW3]; exact (blk_cell HB3.out 0).trans rfl
  have hz1 : (w3.setCell ⟨gx, 2, none⟩ (.int .i64 b3)).cell? ⟨gx, 1, none⟩ = some (.int .i64 b2) := by rw [← hW3]; exact (blk_cell HB3.out 1).trans rfl
  have hz2 : (w3.setCell ⟨gx, 2, none⟩ (.int .i64 b3)).cell? ⟨gx, 2, none⟩ = some (.int .i64 b3) := by rw [← hW3]; exact (blk_cell HB3.out 2).trans rfl
  have hx : (w3.setCell ⟨gx, 2, none⟩ (.int .i64 b3)).cell? ⟨ga, 2, none⟩ = some (.slice Ao ls.length co) := by rw [← hW3]; exact (blk_cell HJ3.out.ab 2).trans rfl
  have HSZ : W3.heap.size = w3.heap.size := by rw [hW3]; simp [World.setCell]
  go_wp2_with (first | ((with_reducible refine gate_builtin (b := .append) (xs := #[.tmp 13, .tmp 15]) rfl ?_); at_builtin; rw [← hW3]; refine Kd.S_append k87 (w0 := w) (W := W3) w.heap.size rfl (.tmp 13) (.tmp 15) 23 87 (.agg #[.slice none 0 0, .int .i64 0, .int .i64 0]) 40 rfl Try.underlying23 info87 rfl (by decide) (by omega) (.slice Ao ls.length co) ls (⟨b1, b2, b3⟩ : S87) [.slice A1 b1.length c1, .int .i64 b2, .int .i64 b3] (fun _ => True) (fun k => W.heap.size ≤ k) rfl (by rw [HSZ]; rfl) ?aP ?aK (fun _ _ => trivial) ?aO ?aB ?aS ?aL ?_; (case aP => exact k87_mkM _ _ _ _ (Kd.R_mono (OB.at_ HOW3.out (Nat.le_trans HI.out.size HOB.out)) (fun _ hk => Nat.le_trans HOB.out hk))); (case aK => exact (fun k hk => ⟨trivial, fun e => by have := Kd.S_lt HI.out.r2 k e.symm; omega⟩)); (case aO => exact Kd.S_mono (S_older HI.out.r2 HI.out.rb (by decide) HD3.out) (fun k hk => ⟨trivial, by omega⟩)); (case aB => exact HJ3.out.below); (case aS => exact HJ3.out.size); (case aL => omega); intro v4 w4 ho hb hg hat; obtain ⟨ys, hys⟩ : ∃ ys, ls ++ [(⟨b1, b2, b3⟩ : S87)] = ys := ⟨_, rfl⟩; rw [hys] at ho; have HY := Aside0.mk hys; clear hys; obtain ⟨A4, c4, rfl⟩ := Kd.S_slice ho; have HI4 := Aside0.mk (HJ3.out.put2 hg ho); have hx4 := (blk_cell (blk_grown HJ3.out.ab hg (Kd.S_ne HJ3.out.r2 HJ3.out.ab (by decide))) 2).trans rfl; have hfx4 := blk_frozen (blk_grown HJ3.out.ab hg (Kd.S_ne HJ3.out.r2 HJ3.out.ab (by decide))) 2; clear ho hb hg hat))
  go_end0
  exact ⟨_, rfl, by rw [HE1.out, HE2.out, HE3.out, HY.out]; exact HI4.out⟩
structure PostC3 (w : World) (gv gr ga : Nat) (A : Option Addr) (c : Nat) (l : List Int) (m : Int) (s : Int × Bool) (v1 v2 : Value) (es : List S72) (ls : List S87) (ss : List S97) (e : Ending) (w' : World) : Prop where
  mk ::
  out : ∃ v', e = .returned (.tuple #[]) ∧ Inv w gv gr ga A c l m (rtext l (rnum l (rnum l (rnum l s).2).2).2).2 v1 v2 v' es ls (ss ++ [⟨(rnum l s).1, (rnum l (rnum l s).2).1, ⟨(rnum l (rnum l (rnum l s).2).2).1, (rtext l (rnum l (rnum l (rnum l s).2).2).2).1⟩⟩]) w'
set_option maxHeartbeats 4000000 in
set_option maxRecDepth 100000 in
theorem decode_session (w W : World) (gv gr ga : Nat) (A : Option Addr) (c : Nat) (l : List Int) (m : Int) (s : Int × Bool) (v1 v2 v3 : Value) (es : List S72) (ls : List S87) (ss : List S97) (hI : Inv w gv gr ga A c l m s v1 v2 v3 es ls ss W) (hr : CB w A l) (hc : l.length ≤ c) (hw : wfB l) (hL : l.length ≤ 137438953472) (hn : es.length ≤ 1000000000000) (hn2 : ls.length ≤ 1000000000000) (hn3 : ss.length ≤ 1000000000000) :
    Calls Try.prog 77 #[.pointer (some ⟨gv, 0, none⟩), .pointer (some ⟨ga, 0, none⟩)] W (PostC3 w gv gr ga A c l m s v1 v2 es ls ss) := by
  have HI := Aside0.mk hI
  have HR := Aside0.mk hr
  have HW := Aside0.mk hw
  obtain ⟨Ao, co, eo⟩ := Kd.S_slice hI.r3
  subst eo
  clear hI hr hw
  have hv0 : W.cell? ⟨gv, 0, none⟩ = some (.pointer (some ⟨gr, 0, none⟩)) := (blk_cell HI.out.vb 0).trans rfl
  go_enter Try.func77, Try.ntmps77
  go_wp2_with fail
  refine (inv_num HI.out HR.out hc HW.out hL).mono ?_
  rintro e w1 hp
  obtain ⟨he, hi, hch⟩ := hp.out
  subst he
  obtain ⟨b1, hb⟩ : ∃ b, (rnum l s).1 = b := ⟨_, rfl⟩
  rw [hb]
  have HE1 := Aside0.mk hb
  clear hb
  have HI1 := Aside0.mk hi
  have HC1 := Aside0.mk hch
  clear hi hch hv0
  obtain ⟨gx, hgx⟩ : ∃ gx, gx = w1.heap.size := ⟨_, rfl⟩
  obtain ⟨W1, hW1⟩ : ∃ W1, W1 = w1.alloc (.cells #[.int .i64 b1, .int .i64 0, .int .i64 0, .slice none 0 0] 97) := ⟨_, rfl⟩
  have HB1 : Aside0 (W1.heap[gx]? = some (.cells #[.int .i64 b1, .int .i64 0, .int .i64 0, .slice none 0 0] 97 (0, 0))) := ⟨by rw [hW1, hgx]; exact blk_new w1 _⟩
  have HX1 : Aside0 (Below w1.heap.size w1 W1) := ⟨by rw [hW1]; exact below_alloc (Below.refl _ _) _⟩
  have HD1 := Aside0.mk (HC1.out.below HX1.out)
  have HJ1 := Aside0.mk (HI1.out.later HX1.out)
  have HG := Aside0.mk (show W.heap.size ≤ gx by rw [hgx]; exact HC1.out.size)
  have hv1 : (w1.alloc (.cells #[.int .i64 b1, .int .i64 0, .int .i64 0, .slice none 0 0] 97)).cell? ⟨gv, 0, none⟩ = some (.pointer (some ⟨gr, 0, none⟩)) := by rw [← hW1]; exact (blk_cell HJ1.out.vb 0).trans rfl
  go_wp2_with fail
  rw [← hW1]
  try rw [← hgx]
  clear hv1 hW1 hgx
  refine (inv_num HJ1.out HR.out hc HW.out hL).mono ?_
  rintro e w2 hp
  obtain ⟨he, hi, hch⟩ := hp.out
  subst he
  obtain ⟨b2, hb⟩ : ∃ b, (rnum l (rnum l s).2).1 = b := ⟨_, rfl⟩
  rw [hb]
  have HE2 := Aside0.mk hb
  clear hb
  have HK2 := Aside0.mk (hch.blk HB1.out (blk_ne HB1.out HJ1.out.rb (by decide)))
  have HC2 := Aside0.mk (HD1.out.trans hch (fun i hi => .inl hi))
  have HI2 := Aside0.mk hi
  have HCx2 := Aside0.mk hch
  clear hi hch
  have hb2 := (blk_cell HK2.out 1).trans rfl
  have hf2 := blk_frozen HK2.out 1
  obtain ⟨W2, hW2⟩ : ∃ W', W' = w2.setCell ⟨gx, 1, none⟩ (.int .i64 b2) := ⟨_, rfl⟩
  have HB2 : Aside0 (W2.heap[gx]? = some (.cells #[.int .i64 b1, .int .i64 b2, .int .i64 0, .slice none 0 0] 97 (0, 0))) := ⟨by rw [hW2]; exact (blk_set HK2.out 1 _).trans rfl⟩
  have HD2 : Aside0 (Ch W W2 (fun k => k = gr)) := ⟨by rw [hW2]; exact HC2.out.setCell _ _ (.inr HG.out)⟩
  have HJ2 := Aside0.mk (HI.out.read HD2.out (s' := _) (by rw [hW2]; exact blk_far HI2.out.rb (p := ⟨gx, 1, none⟩) (fun e => (blk_ne HK2.out HI2.out.rb (by decide)) e.symm) _) HI2.out.pl)
  have hv2 : (w2.setCell ⟨gx, 1, none⟩ (.int .i64 b2)).cell? ⟨gv, 0, none⟩ = some (.pointer (some ⟨gr, 0, none⟩)) := by rw [← hW2]; exact (blk_cell HJ2.out.vb 0).trans rfl
  go_wp2_with fail
  rw [← hW2]
  clear hv2 hW2
  refine (inv_num HJ2.out HR.out hc HW.out hL).mono ?_
  rintro e w3 hp
  obtain ⟨he, hi, hch⟩ := hp.out
  subst he
  obtain ⟨b3, hb⟩ : ∃ b, (rnum l (rnum l (rnum l s).2).2).1 = b := ⟨_, rfl⟩
  rw [hb]
  have HE3 := Aside0.mk hb
  clear hb
  have HK3 := Aside0.mk (hch.blk HB2.out (blk_ne HB2.out HJ2.out.rb (by decide)))
  have HC3 := Aside0.mk (HD2.out.trans hch (fun i hi => .inl hi))
  have HI3 := Aside0.mk hi
  have HCx3 := Aside0.mk hch
  clear hi hch
  have hb3 := (blk_cell HK3.out 2).trans rfl
  have hf3 := blk_frozen HK3.out 2
  obtain ⟨W3, hW3⟩ : ∃ W', W' = w3.setCell ⟨gx, 2, none⟩ (.int .i64 b3) := ⟨_, rfl⟩
  have HB3 : Aside0 (W3.heap[gx]? = some (.cells #[.int .i64 b1, .int .i64 b2, .int .i64 b3, .slice none 0 0] 97 (0, 0))) := ⟨by rw [hW3]; exact (blk_set HK3.out 2 _).trans rfl⟩
  have HD3 : Aside0 (Ch W W3 (fun k => k = gr)) := ⟨by rw [hW3]; exact HC3.out.setCell _ _ (.inr HG.out)⟩
  have HJ3 := Aside0.mk (HI.out.read HD3.out (s' := _) (by rw [hW3]; exact blk_far HI3.out.rb (p := ⟨gx, 2, none⟩) (fun e => (blk_ne HK3.out HI3.out.rb (by decide)) e.symm) _) HI3.out.pl)
  have hv3 : (w3.setCell ⟨gx, 2, none⟩ (.int .i64 b3)).cell? ⟨gv, 0, none⟩ = some (.pointer (some ⟨gr, 0, none⟩)) := by rw [← hW3]; exact (blk_cell HJ3.out.vb 0).trans rfl
  go_wp2_with fail
  rw [← hW3]
  clear hv3 hW3
  refine (inv_text HJ3.out HR.out hc HW.out hL).mono ?_
  rintro e w4 hp
  obtain ⟨u, rfl, ho, hi, hch⟩ := hp.out
  obtain ⟨b4, hb, ho⟩ := ho.named
  obtain ⟨A4, c4, rfl, hcc, hrr⟩ := ho.reads
  have HE4 := Aside0.mk hb
  have HO4 := Aside0.mk ho
  clear ho hb hcc hrr
  have HK4 := Aside0.mk (hch.blk HB3.out (blk_ne HB3.out HJ3.out.rb (by decide)))
  have HC4 := Aside0.mk (HD3.out.trans hch (fun i hi => .inl hi))
  have HI4 := Aside0.mk hi
  have HCx4 := Aside0.mk hch
  clear hi hch
  have hb4 := (blk_cell HK4.out 3).trans rfl
  have hf4 := blk_frozen HK4.out 3
  obtain ⟨W4, hW4⟩ : ∃ W', W' = w4.setCell ⟨gx, 3, none⟩ (.slice A4 b4.length c4) := ⟨_, rfl⟩
  have HB4 : Aside0 (W4.heap[gx]? = some (.cells #[.int .i64 b1, .int .i64 b2, .int .i64 b3, .slice A4 b4.length c4] 97 (0, 0))) := ⟨by rw [hW4]; exact (blk_set HK4.out 3 _).trans rfl⟩
  have HD4 : Aside0 (Ch W W4 (fun k => k = gr)) := ⟨by rw [hW4]; exact HC4.out.setCell _ _ (.inr HG.out)⟩
  have HJ4 := Aside0.mk (HI.out.read HD4.out (s' := _) (by rw [hW4]; exact blk_far HI4.out.rb (p := ⟨gx, 3, none⟩) (fun e => (blk_ne HK4.out HI4.out.rb (by decide)) e.symm) _) HI4.out.pl)
  have HOW4 := Aside0.mk (show OB W4 W3.heap.size _ b4 by rw [hW4]; exact HO4.out.ch ((Ch.refl w4 (fun k => k = gx)).setCell _ _ (.inl rfl)) (HO4.out.ne_blk HK4.out (by decide)))
  have HOB := Aside0.mk HD3.out.size
  have hv4 : (w4.setCell ⟨gx, 3, none⟩ (.slice A4 b4.length c4)).cell? ⟨gv, 0, none⟩ = some (.pointer (some ⟨gr, 0, none⟩)) := by rw [← hW4]; exact (blk_cell HJ4.out.vb 0).trans rfl
  have hz0 : (w4.setCell ⟨gx, 3, none⟩ (.slice A4 b4.length c4)).cell? ⟨gx, 0, none⟩ = some (.int .i64 b1) := by rw [← hW4]; exact (blk_cell HB4.out 0).trans rfl
  have hz1 : (w4.setCell ⟨gx, 3, none⟩ (.slice A4 b4.length c4)).cell? ⟨gx, 1, none⟩ = some (.int .i64 b2) := by rw [← hW4]; exact (blk_cell HB4.out 1).trans rfl
  have hz2 : (w4.setCell ⟨gx, 3, none⟩ (.slice A4 b4.length c4)).cell? ⟨gx, 2, none⟩ = some (.int .i64 b3) := by rw [← hW4]; exact (blk_cell HB4.out 2).trans rfl
  have hz3 : (w4.setCell ⟨gx, 3, none⟩ (.slice A4 b4.length c4)).cell? ⟨gx, 3, none⟩ = some (.slice A4 b4.length c4) := by rw [← hW4]; exact (blk_cell HB4.out 3).trans rfl
  have hx : (w4.setCell ⟨gx, 3, none⟩ (.slice A4 b4.length c4)).cell? ⟨ga, 3, none⟩ = some (.slice Ao ss.length co) := by rw [← hW4]; exact (blk_cell HJ4.out.ab 3).trans rfl
  have HSZ : W4.heap.size = w4.heap.size := by rw [hW4]; simp [World.setCell]
  go_wp2_with (first | ((with_reducible refine gate_builtin (b := .append) (xs := #[.tmp 18, .tmp 20]) rfl ?_); at_builtin; rw [← hW4]; refine Kd.S_append k97 (w0 := w) (W := W4) w.heap.size rfl (.tmp 18) (.tmp 20) 24 97 (.agg #[.int .i64 0, .int .i64 0, .int .i64 0, .slice none 0 0]) 48 rfl Try.underlying24 info97 rfl (by decide) (by omega) (.slice Ao ss.length co) ss (⟨b1, b2, ⟨b3, b4⟩⟩ : S97) [.int .i64 b1, .int .i64 b2, .int .i64 b3, .slice A4 b4.length c4] (fun _ => True) (fun k => W.heap.size ≤ k) rfl (by rw [HSZ]; rfl) ?aP ?aK (fun _ _ => trivial) ?aO ?aB ?aS ?aL ?_; (case aP => exact k97_mkM _ _ _ _ (Kd.R_mono (OB.at_ HOW4.out (Nat.le_trans HI.out.size HOB.out)) (fun _ hk => Nat.le_trans HOB.out hk))); (case aK => exact (fun k hk => ⟨trivial, fun e => by have := Kd.S_lt HI.out.r3 k e.symm; omega⟩)); (case aO => exact Kd.S_mono (S_older HI.out.r3 HI.out.rb (by decide) HD4.out) (fun k hk => ⟨trivial, by omega⟩)); (case aB => exact HJ4.out.below); (case aS => exact HJ4.out.size); (case aL => omega); intro v4 w4 ho hb hg hat; obtain ⟨ys, hys⟩ : ∃ ys, ss ++ [(⟨b1, b2, ⟨b3, b4⟩⟩ : S97)] = ys := ⟨_, rfl⟩; rw [hys] at ho; have HY := Aside0.mk hys; clear hys; obtain ⟨A4, c4, rfl⟩ := Kd.S_slice ho; have HI4 := Aside0.mk (HJ4.out.put3 hg ho); have hx4 := (blk_cell (blk_grown HJ4.out.ab hg (Kd.S_ne HJ4.out.r3 HJ4.out.ab (by decide))) 3).trans rfl; have hfx4 := blk_frozen (blk_grown HJ4.out.ab hg (Kd.S_ne HJ4.out.r3 HJ4.out.ab (by decide))) 3; clear ho hb hg hat))
  go_end0
  exact ⟨_, rfl, by rw [HE1.out, HE2.out, HE3.out, HE4.out, HY.out]; exact HI4.out⟩

end Go.Proofs.Ytophfoenaekfjaa

namespace Go.Proofs.Ytophfoenaekfjaa
open Go.RowKit Go.Proofs.YtophfoenaekfjaaW.PrintWords Go.Proofs.YtophfoenaekfjaaW.PrintLast Go.Proofs.YtophfoenaekfjaaW.PrintMore Go.Proofs.Ytophfoenaekfjaa.PSnapEncodes
set_option linter.unusedVariables false
set_option linter.unusedSimpArgs false

def rep {σ : Type} (step : (Int × Bool) × σ → (Int × Bool) × σ) : Nat → (Int × Bool) × σ → (Int × Bool) × σ
  | 0, x => x
  | k + 1, x => if x.1.2 = true then x else rep step k (step x)
theorem rep_bad {σ : Type} (step : (Int × Bool) × σ → (Int × Bool) × σ) (k : Nat) (x : (Int × Bool) × σ) (h : x.1.2 = true) : rep step k x = x := by
  cases k with
  | zero => rfl
  | succ k => simp [rep, h]
theorem rep_go {σ : Type} (step : (Int × Bool) × σ → (Int × Bool) × σ) (k : Nat) (x : (Int × Bool) × σ) (h : x.1.2 = false) : rep step (k + 1) x = rep step k (step x) := by simp [rep, h]
def step1 (l : List Int) (x : (Int × Bool) × List S72) : (Int × Bool) × List S72 := ((rtext l (rtext l x.1).2).2, x.2 ++ [⟨(rtext l x.1).1, (rtext l (rtext l x.1).2).1⟩])
def step2 (l : List Int) (x : (Int × Bool) × List S87) : (Int × Bool) × List S87 := ((rnum l (rnum l (rtext l x.1).2).2).2, x.2 ++ [⟨(rtext l x.1).1, (rnum l (rtext l x.1).2).1, (rnum l (rnum l (rtext l x.1).2).2).1⟩])
def step3 (l : List Int) (x : (Int × Bool) × List S97) : (Int × Bool) × List S97 := ((rtext l (rnum l (rnum l (rnum l x.1).2).2).2).2, x.2 ++ [⟨(rnum l x.1).1, (rnum l (rnum l x.1).2).1, ⟨(rnum l (rnum l (rnum l x.1).2).2).1, (rtext l (rnum l (rnum l (rnum l x.1).2).2).2).1⟩⟩])
theorem rnum_n {l : List Int} {s : Int × Bool} (hw : wfB l) : 0 ≤ (rnum l s).1 ∧ (rnum l s).1 ≤ 2147483647 := by
  rcases getI_cases (a := s.1) hw with ⟨n, nx, h, h0, h1, h2, h3, h4⟩ | h
  · unfold rnum; rw [h]; exact ⟨h1, h2⟩
  · unfold rnum; rw [h]; exact ⟨by show (0 : Int) ≤ 0; omega, by show (0 : Int) ≤ 2147483647; omega⟩
/-- A count, then so many things. -/
def many {σ : Type} (l : List Int) (step : (Int × Bool) × σ → (Int × Bool) × σ) (s : Int × Bool) (x : σ) : (Int × Bool) × σ := rep step (rnum l s).1.toNat ((rnum l s).2, x)
structure PostM1 (w : World) (gv gr ga : Nat) (A : Option Addr) (c : Nat) (l : List Int) (m : Int) (s : Int × Bool) (v2 v3 : Value) (ls : List S87) (ss : List S97) (e : Ending) (w' : World) : Prop where
  mk ::
  out : ∃ v', e = .returned (.tuple #[]) ∧ Inv w gv gr ga A c l m (many l (step1 l) s []).1 v' v2 v3 (many l (step1 l) s []).2 ls ss w'
set_option maxHeartbeats 4000000 in
set_option maxRecDepth 100000 in
theorem decode_times1 (w W : World) (gv gr ga : Nat) (A : Option Addr) (c : Nat) (l : List Int) (m : Int) (s : Int × Bool) (v1 v2 v3 : Value) (ls : List S87) (ss : List S97) (hI : Inv w gv gr ga A c l m s v1 v2 v3 [] ls ss W) (hr : CB w A l) (hc : l.length ≤ c) (hw : wfB l) (hL : l.length ≤ 137438953472) (hn2 : ls.length ≤ 1000000000000) (hn3 : ss.length ≤ 1000000000000) :
    Calls Try.prog 73 #[.pointer (some ⟨gr, 0, none⟩), .func (.func 74) #[] #[.pointer (some ⟨gv, 0, none⟩), .pointer (some ⟨ga, 0, none⟩)]] W (PostM1 w gv gr ga A c l m s v2 v3 ls ss) := by
  have HI := Aside0.mk hI
  have HR := Aside0.mk hr
  have HW := Aside0.mk hw
  have HN := Aside0.mk (rnum_n (s := s) hw)
  clear hI hr hw
  go_enter Try.func73, Try.ntmps73
  go_wp2_with fail
  refine (inv_num HI.out HR.out hc HW.out hL).mono ?_
  rintro e w1 hp
  obtain ⟨he, hi, hch⟩ := hp.out
  subst he
  have HI1 := Aside0.mk hi
  obtain ⟨N, hN⟩ : ∃ N, (rnum l s).1 = N := ⟨_, rfl⟩
  rw [hN]
  have HM := Aside0.mk (show many l (step1 l) s [] = rep (step1 l) N.toNat ((rnum l s).2, []) by unfold many; rw [hN])
  rw [hN] at HN
  have hN0 := HN.out.1
  have hN1 := HN.out.2
  clear hi hch HI
  go_wp2_with fail
  go_loopw [4] (fun v4 wr => ∃ (x : Int) (s' : Int × Bool) (v : Value) (zs : List S72), v4 = .int .i64 x ∧ 0 ≤ x ∧ x ≤ N ∧ Aside0 (rep (step1 l) x.toNat (s', zs) = rep (step1 l) N.toNat ((rnum l s).2, [])) ∧ Aside0 (zs.length + x.toNat = N.toNat) ∧ Aside0 (Inv w gv gr ga A c l m s' v v2 v3 zs ls ss wr)) (fun v4 _ => (intOf v4).toNat)
  case atStart => exact ⟨N, (rnum l s).2, _, [], rfl, hN0, by omega, ⟨rfl⟩, ⟨by simp⟩, HI1⟩
  case round =>
    clear HI1
    obtain ⟨x, s', v, zs, rfl, h0, h1, HA, HZ, HI⟩ := hrel
    obtain ⟨at_, bad⟩ := s'
    have hrb : wr.cell? ⟨gr, 2, none⟩ = some (.bool bad) := (blk_cell HI.out.rb 2).trans rfl
    cases hq : decide (0 < x) with
    | false =>
      have HX := Aside0.mk (show x.toNat = 0 by have := of_decide_eq_false hq; omega)
      go_wp2_with fail
      go_end0
      exact ⟨_, rfl, by have h := HA.out; rw [HX.out] at h; rw [HM.out, ← h]; exact HI.out⟩
    | true =>
      cases bad with
      | true =>
        go_wp2_with fail
        go_end0
        exact ⟨_, rfl, by have h := HA.out; rw [rep_bad _ _ _ rfl] at h; rw [HM.out, ← h]; exact HI.out⟩
      | false =>
        have hx0 := of_decide_eq_true hq
        have HX := Aside0.mk (show x.toNat = (x - 1).toNat + 1 by omega)
        go_wp2_with fail
        refine (decode_entry w wr gv gr ga A c l m (at_, false) v v2 v3 zs ls ss HI.out HR.out hc HW.out hL (by have := HZ.out; have := HN.out.2; omega) hn2 hn3).mono ?_
        rintro e w2 hp
        obtain ⟨u, rfl, hi⟩ := hp.out
        have HI2 := Aside0.mk hi
        clear hi HI hrb
        go_wp2_with fail
        go_roundw
        case rel => exact ⟨x - 1, _, u, _, by go_num, by omega, by omega, ⟨by have h := HA.out; rw [HX.out, rep_go _ _ _ rfl] at h; exact h⟩, ⟨by have := HZ.out; rw [List.length_append]; simp; omega⟩, HI2⟩
        case measure => simp [intOf]; omega
structure PostM2 (w : World) (gv gr ga : Nat) (A : Option Addr) (c : Nat) (l : List Int) (m : Int) (s : Int × Bool) (v1 v3 : Value) (es : List S72) (ss : List S97) (e : Ending) (w' : World) : Prop where
  mk ::
  out : ∃ v', e = .returned (.tuple #[]) ∧ Inv w gv gr ga A c l m (many l (step2 l) s []).1 v1 v' v3 es (many l (step2 l) s []).2 ss w'
set_option maxHeartbeats 4000000 in
set_option maxRecDepth 100000 in
theorem decode_times2 (w W : World) (gv gr ga : Nat) (A : Option Addr) (c : Nat) (l : List Int) (m : Int) (s : Int × Bool) (v1 v2 v3 : Value) (es : List S72) (ss : List S97) (hI : Inv w gv gr ga A c l m s v1 v2 v3 es [] ss W) (hr : CB w A l) (hc : l.length ≤ c) (hw : wfB l) (hL : l.length ≤ 137438953472) (hn : es.length ≤ 1000000000000) (hn3 : ss.length ≤ 1000000000000) :
    Calls Try.prog 73 #[.pointer (some ⟨gr, 0, none⟩), .func (.func 76) #[] #[.pointer (some ⟨gv, 0, none⟩), .pointer (some ⟨ga, 0, none⟩)]] W (PostM2 w gv gr ga A c l m s v1 v3 es ss) := by
  have HI := Aside0.mk hI
  have HR := Aside0.mk hr
  have HW := Aside0.mk hw
  have HN := Aside0.mk (rnum_n (s := s) hw)
  clear hI hr hw
  go_enter Try.func73, Try.ntmps73
  go_wp2_with fail
  refine (inv_num HI.out HR.out hc HW.out hL).mono ?_
  rintro e w1 hp
  obtain ⟨he, hi, hch⟩ := hp.out
  subst he
  have HI1 := Aside0.mk hi
  obtain ⟨N, hN⟩ : ∃ N, (rnum l s).1 = N := ⟨_, rfl⟩
  rw [hN]
  have HM := Aside0.mk (show many l (step2 l) s [] = rep (step2 l) N.toNat ((rnum l s).2, []) by unfold many; rw [hN])
  rw [hN] at HN
  have hN0 := HN.out.1
  have hN1 := HN.out.2
  clear hi hch HI
  go_wp2_with fail
  go_loopw [4] (fun v4 wr => ∃ (x : Int) (s' : Int × Bool) (v : Value) (zs : List S87), v4 = .int .i64 x ∧ 0 ≤ x ∧ x ≤ N ∧ Aside0 (rep (step2 l) x.toNat (s', zs) = rep (step2 l) N.toNat ((rnum l s).2, [])) ∧ Aside0 (zs.length + x.toNat = N.toNat) ∧ Aside0 (Inv w gv gr ga A c l m s' v1 v v3 es zs ss wr)) (fun v4 _ => (intOf v4).toNat)
  case atStart => exact ⟨N, (rnum l s).2, _, [], rfl, hN0, by omega, ⟨rfl⟩, ⟨by simp⟩, HI1⟩
  case round =>
    clear HI1
    obtain ⟨x, s', v, zs, rfl, h0, h1, HA, HZ, HI⟩ := hrel
    obtain ⟨at_, bad⟩ := s'
    have hrb : wr.cell? ⟨gr, 2, none⟩ = some (.bool bad) := (blk_cell HI.out.rb 2).trans rfl
    cases hq : decide (0 < x) with
    | false =>
      have HX := Aside0.mk (show x.toNat = 0 by have := of_decide_eq_false hq; omega)
      go_wp2_with fail
      go_end0
      exact ⟨_, rfl, by have h := HA.out; rw [HX.out] at h; rw [HM.out, ← h]; exact HI.out⟩
    | true =>
      cases bad with
      | true =>
        go_wp2_with fail
        go_end0
        exact ⟨_, rfl, by have h := HA.out; rw [rep_bad _ _ _ rfl] at h; rw [HM.out, ← h]; exact HI.out⟩
      | false =>
        have hx0 := of_decide_eq_true hq
        have HX := Aside0.mk (show x.toNat = (x - 1).toNat + 1 by omega)
        go_wp2_with fail
        refine (decode_lease w wr gv gr ga A c l m (at_, false) v1 v v3 es zs ss HI.out HR.out hc HW.out hL hn (by have := HZ.out; have := HN.out.2; omega) hn3).mono ?_
        rintro e w2 hp
        obtain ⟨u, rfl, hi⟩ := hp.out
        have HI2 := Aside0.mk hi
        clear hi HI hrb
        go_wp2_with fail
        go_roundw
        case rel => exact ⟨x - 1, _, u, _, by go_num, by omega, by omega, ⟨by have h := HA.out; rw [HX.out, rep_go _ _ _ rfl] at h; exact h⟩, ⟨by have := HZ.out; rw [List.length_append]; simp; omega⟩, HI2⟩
        case measure => simp [intOf]; omega
structure PostM3 (w : World) (gv gr ga : Nat) (A : Option Addr) (c : Nat) (l : List Int) (m : Int) (s : Int × Bool) (v1 v2 : Value) (es : List S72) (ls : List S87) (e : Ending) (w' : World) : Prop where
  mk ::
  out : ∃ v', e = .returned (.tuple #[]) ∧ Inv w gv gr ga A c l m (many l (step3 l) s []).1 v1 v2 v' es ls (many l (step3 l) s []).2 w'
set_option maxHeartbeats 4000000 in
set_option maxRecDepth 100000 in
theorem decode_times3 (w W : World) (gv gr ga : Nat) (A : Option Addr) (c : Nat) (l : List Int) (m : Int) (s : Int × Bool) (v1 v2 v3 : Value) (es : List S72) (ls : List S87) (hI : Inv w gv gr ga A c l m s v1 v2 v3 es ls [] W) (hr : CB w A l) (hc : l.length ≤ c) (hw : wfB l) (hL : l.length ≤ 137438953472) (hn : es.length ≤ 1000000000000) (hn2 : ls.length ≤ 1000000000000) :
    Calls Try.prog 73 #[.pointer (some ⟨gr, 0, none⟩), .func (.func 77) #[] #[.pointer (some ⟨gv, 0, none⟩), .pointer (some ⟨ga, 0, none⟩)]] W (PostM3 w gv gr ga A c l m s v1 v2 es ls) := by
  have HI := Aside0.mk hI
  have HR := Aside0.mk hr
  have HW := Aside0.mk hw
  have HN := Aside0.mk (rnum_n (s := s) hw)
  clear hI hr hw
  go_enter Try.func73, Try.ntmps73
  go_wp2_with fail
  refine (inv_num HI.out HR.out hc HW.out hL).mono ?_
  rintro e w1 hp
  obtain ⟨he, hi, hch⟩ := hp.out
  subst he
  have HI1 := Aside0.mk hi
  obtain ⟨N, hN⟩ : ∃ N, (rnum l s).1 = N := ⟨_, rfl⟩
  rw [hN]
  have HM := Aside0.mk (show many l (step3 l) s [] = rep (step3 l) N.toNat ((rnum l s).2, []) by unfold many; rw [hN])
  rw [hN] at HN
  have hN0 := HN.out.1
  have hN1 := HN.out.2
  clear hi hch HI
  go_wp2_with fail
  go_loopw [4] (fun v4 wr => ∃ (x : Int) (s' : Int × Bool) (v : Value) (zs : List S97), v4 = .int .i64 x ∧ 0 ≤ x ∧ x ≤ N ∧ Aside0 (rep (step3 l) x.toNat (s', zs) = rep (step3 l) N.toNat ((rnum l s).2, [])) ∧ Aside0 (zs.length + x.toNat = N.toNat) ∧ Aside0 (Inv w gv gr ga A c l m s' v1 v2 v es ls zs wr)) (fun v4 _ => (intOf v4).toNat)
  case atStart => exact ⟨N, (rnum l s).2, _, [], rfl, hN0, by omega, ⟨rfl⟩, ⟨by simp⟩, HI1⟩
  case round =>
    clear HI1
    obtain ⟨x, s', v, zs, rfl, h0, h1, HA, HZ, HI⟩ := hrel
    obtain ⟨at_, bad⟩ := s'
    have hrb : wr.cell? ⟨gr, 2, none⟩ = some (.bool bad) := (blk_cell HI.out.rb 2).trans rfl
    cases hq : decide (0 < x) with
    | false =>
      have HX := Aside0.mk (show x.toNat = 0 by have := of_decide_eq_false hq; omega)
      go_wp2_with fail
      go_end0
      exact ⟨_, rfl, by have h := HA.out; rw [HX.out] at h; rw [HM.out, ← h]; exact HI.out⟩
    | true =>
      cases bad with
      | true =>
        go_wp2_with fail
        go_end0
        exact ⟨_, rfl, by have h := HA.out; rw [rep_bad _ _ _ rfl] at h; rw [HM.out, ← h]; exact HI.out⟩
      | false =>
        have hx0 := of_decide_eq_true hq
        have HX := Aside0.mk (show x.toNat = (x - 1).toNat + 1 by omega)
        go_wp2_with fail
        refine (decode_session w wr gv gr ga A c l m (at_, false) v1 v2 v es ls zs HI.out HR.out hc HW.out hL hn hn2 (by have := HZ.out; have := HN.out.2; omega)).mono ?_
        rintro e w2 hp
        obtain ⟨u, rfl, hi⟩ := hp.out
        have HI2 := Aside0.mk hi
        clear hi HI hrb
        go_wp2_with fail
        go_roundw
        case rel => exact ⟨x - 1, _, u, _, by go_num, by omega, by omega, ⟨by have h := HA.out; rw [HX.out, rep_go _ _ _ rfl] at h; exact h⟩, ⟨by have := HZ.out; rw [List.length_append]; simp; omega⟩, HI2⟩
        case measure => simp [intOf]; omega

end Go.Proofs.Ytophfoenaekfjaa

namespace Go.Proofs.Ytophfoenaekfjaa
open Go.RowKit Go.Proofs.YtophfoenaekfjaaW.PrintWords Go.Proofs.YtophfoenaekfjaaW.PrintLast Go.Proofs.YtophfoenaekfjaaW.PrintMore Go.Proofs.Ytophfoenaekfjaa.PSnapEncodes
set_option linter.unusedVariables false
set_option linter.unusedSimpArgs false

/-- What is read, before it is looked at: the state, and whether something wasn't there. -/
structure Parsed where
  m : Int
  es : List S72
  ls : List S87
  ss : List S97
  s : Int × Bool
def parse (l : List Int) : Parsed :=
  { m := (rnum l (0, false)).1
    es := (many l (step1 l) (rnum l (0, false)).2 []).2
    ls := (many l (step2 l) (many l (step1 l) (rnum l (0, false)).2 []).1 []).2
    ss := (many l (step3 l) (many l (step2 l) (many l (step1 l) (rnum l (0, false)).2 []).1 []).1 []).2
    s := (many l (step3 l) (many l (step2 l) (many l (step1 l) (rnum l (0, false)).2 []).1 []).1 []).1 }
def Parsed.ok (p : Parsed) (l : List Int) : Prop := p.s.2 = false ∧ goodA p.m p.es p.ls p.ss ∧ sameB (encA p.m p.es p.ls p.ss) l = true
/-- A state that was answered with an error's number: what it is if the state is right, and else nothing and 101. -/
structure PostDe (w : World) (good : Prop) (p : Parsed) (e : Ending) (w' : World) : Prop where
  mk ::
  out : ∃ (m : Int) (v1 v2 v3 : Value) (es : List S72) (ls : List S87) (ss : List S97) (er : Int), e = .returned (.tuple #[.agg #[.int .i64 m, v1, v2, v3], .int .i64 er]) ∧ Kd.S k72 72 w' w.heap.size (fun _ => True) v1 es ∧ Kd.S k87 87 w' w.heap.size (fun _ => True) v2 ls ∧ Kd.S k97 97 w' w.heap.size (fun _ => True) v3 ss ∧ Below w.heap.size w w' ∧
    (good → m = p.m ∧ es = p.es ∧ ls = p.ls ∧ ss = p.ss ∧ er = 0) ∧ (¬ good → m = 0 ∧ es = [] ∧ ls = [] ∧ ss = [] ∧ er = 101)
theorem rep_len1 {σ : Type} (f : List Int → (Int × Bool) × List σ → (Int × Bool) × List σ) (l : List Int) (hf : ∀ x, (f l x).2.length = x.2.length + 1) : ∀ (k : Nat) (x : (Int × Bool) × List σ), (rep (f l) k x).2.length ≤ x.2.length + k
  | 0, x => Nat.le_refl _
  | k + 1, x => by
    by_cases h : x.1.2 = true
    · rw [rep_bad _ _ _ h]; omega
    · rw [rep_go _ _ _ (by simpa using h)]
      have := rep_len1 f l hf k (f l x)
      rw [hf] at this
      omega
theorem many_len {σ : Type} {f : List Int → (Int × Bool) × List σ → (Int × Bool) × List σ} {l : List Int} (hf : ∀ x, (f l x).2.length = x.2.length + 1) (hw : wfB l) (s : Int × Bool) : (many l (f l) s []).2.length ≤ 2147483647 := by
  have h1 := rep_len1 f l hf (rnum l s).1.toNat ((rnum l s).2, [])
  have h2 := rnum_n (s := s) hw
  simp only [List.length_nil] at h1
  unfold many
  omega
section
variable {W w : World} {g : Nat} {a b c d a' b' c' d' : Value} {T : TypeId}
theorem put4 (h : W.heap[g]? = some (.cells #[a, b, c, d] T (0, 0))) : ((((W.setCell ⟨g, 0, none⟩ a').setCell ⟨g, 1, none⟩ b').setCell ⟨g, 2, none⟩ c').setCell ⟨g, 3, none⟩ d').heap[g]? = some (.cells #[a', b', c', d'] T (0, 0)) :=
  (blk_set (blk_set (blk_set (blk_set h 0 a') 1 b') 2 c') 3 d').trans rfl
theorem S_put4 {α : Type} {k : Kd α} {e base : Nat} {ok : Nat → Prop} {v : Value} {xs : List α} (hS : Kd.S k e W base ok v xs) (h : W.heap[g]? = some (.cells #[a, b, c, d] T (0, 0))) (ht : ∀ q, q ∈ e :: k.E → q ≠ T) : Kd.S k e ((((W.setCell ⟨g, 0, none⟩ a').setCell ⟨g, 1, none⟩ b').setCell ⟨g, 2, none⟩ c').setCell ⟨g, 3, none⟩ d') base ok v xs :=
  Kd.S_set (Kd.S_set (Kd.S_set (Kd.S_set hS h ht 0 a') (blk_set h 0 a') ht 1 b') (blk_set (blk_set h 0 a') 1 b') ht 2 c') (blk_set (blk_set (blk_set h 0 a') 1 b') 2 c') ht 3 d'
theorem below_put4 (h : Below w.heap.size w W) (hg : w.heap.size ≤ g) : Below w.heap.size w ((((W.setCell ⟨g, 0, none⟩ a').setCell ⟨g, 1, none⟩ b').setCell ⟨g, 2, none⟩ c').setCell ⟨g, 3, none⟩ d') :=
  below_set (below_set (below_set (below_set h hg) hg) hg) hg
end
set_option maxHeartbeats 4000000 in
set_option maxRecDepth 100000 in
theorem snap_Decode (A : Option Addr) (c : Nat) (l : List Int) (w : World) (hr : CB w A l) (hc : l.length ≤ c) (hw : wfB l) (hL : l.length ≤ 137438953472) :
    Calls Try.prog 24 #[.slice A l.length c] w (PostDe w ((parse l).ok l) (parse l)) := by
  have HW := Aside0.mk hw
  obtain ⟨wa, hwa⟩ : ∃ wa, wa = w.alloc (.cells #[.int .i64 0, .slice none 0 0, .slice none 0 0, .slice none 0 0] 26) := ⟨_, rfl⟩
  obtain ⟨wb, hwb⟩ : ∃ wb, wb = wa.alloc (.cells #[.slice A l.length c, .int .i64 0, .bool false] 113) := ⟨_, rfl⟩
  obtain ⟨wc, hwc⟩ : ∃ wc, wc = wb.alloc (.cells #[.pointer (some ⟨wa.heap.size, 0, none⟩)] 111) := ⟨_, rfl⟩
  obtain ⟨gz, hgz⟩ : ∃ gz, gz = w.heap.size := ⟨_, rfl⟩
  obtain ⟨gr, hgr⟩ : ∃ gr, gr = wa.heap.size := ⟨_, rfl⟩
  obtain ⟨gv, hgv⟩ : ∃ gv, gv = wb.heap.size := ⟨_, rfl⟩
  have HZ := Aside0.mk (show wa.heap[gz]? = some (.cells #[.int .i64 0, .slice none 0 0, .slice none 0 0, .slice none 0 0] 26 (0, 0)) by rw [hwa, hgz]; exact blk_new _ _)
  have HBa := Aside0.mk (show Below w.heap.size w wa by rw [hwa]; exact below_alloc (Below.refl _ _) _)
  have HBb := Aside0.mk (show Below wa.heap.size wa wb by rw [hwb]; exact below_alloc (Below.refl _ _) _)
  have HBc := Aside0.mk (show Below wb.heap.size wb wc by rw [hwc]; exact below_alloc (Below.refl _ _) _)
  have HRd := Aside0.mk (show RdB wc gr A l.length c (0, false) from blk_below (by rw [hwb, hgr]; exact blk_new _ _) HBc.out)
  have HV := Aside0.mk (show wc.heap[gv]? = some (.cells #[.pointer (some ⟨gr, 0, none⟩)] 111 (0, 0)) by rw [hwc, hgv, hgr]; exact blk_new _ _)
  have HRa := Aside0.mk (Kd.C_below hr HBa.out)
  have HRc := Aside0.mk (Kd.C_below (Kd.C_below HRa.out HBb.out) HBc.out)
  have HGR := Aside0.mk (show wa.heap.size ≤ gr by omega)
  have HGV := Aside0.mk (show wa.heap.size ≤ gv by have := HBb.out.size; omega)
  have HGZ := Aside0.mk (show gz < wa.heap.size from blk_lt HZ.out)
  clear hr hw
  have hs1 : wa.heap.size = w.heap.size + 1 := by rw [hwa]; simp
  have hs2 : wb.heap.size = wa.heap.size + 1 := by rw [hwb]; simp
  have e1 : gz + 1 = gr := by omega
  have e2 : gr + 1 = gv := by omega
  rw [← hgr] at hwc
  have HGZ0 := Aside0.mk hgz
  clear hs1 hs2 hgr hgv
  go_enter Try.func24, Try.ntmps24
  go_wp2_with fail
  rw [← hgz, e1, e2, ← hwa, ← hwb, ← hwc]
  clear e1 e2 hwa hwb hwc hgz
  refine (reader_num gr A c l (0, false) wc HRd.out HRc.out hc HW.out ⟨by omega, by omega⟩ hL).mono ?_
  rintro e w1 hp
  obtain ⟨he, hrd, hch⟩ := hp.out
  subst he
  obtain ⟨b1, hb1⟩ : ∃ b, (rnum l (0, false)).1 = b := ⟨_, rfl⟩
  obtain ⟨s1, hs1⟩ : ∃ b, (rnum l (0, false)).2 = b := ⟨_, rfl⟩
  rw [hb1]
  rw [hs1] at hrd
  have hp1 := rnum_pl HW.out (s := (0, false)) ⟨by omega, by omega⟩
  rw [hs1] at hp1
  have HE1 := Aside0.mk hb1
  have HE2 := Aside0.mk hs1
  obtain ⟨ga, hga⟩ : ∃ ga, ga = w1.heap.size := ⟨_, rfl⟩
  obtain ⟨wd, hwd⟩ : ∃ wd, wd = w1.alloc (.cells #[.int .i64 b1, .slice none 0 0, .slice none 0 0, .slice none 0 0] 26) := ⟨_, rfl⟩
  have HBd := Aside0.mk (show Below w1.heap.size w1 wd by rw [hwd]; exact below_alloc (Below.refl _ _) _)
  have HBw : Below wa.heap.size wa wc := below_step HBb.out HBc.out
  have HI := Aside0.mk (show Inv wa gv gr ga A c l b1 s1 (.slice none 0 0) (.slice none 0 0) (.slice none 0 0) [] [] [] wd from
    { vb := blk_below (hch.blk HV.out (blk_ne HV.out HRd.out (by decide))) HBd.out
      rb := blk_below hrd HBd.out
      ab := by rw [hwd, hga]; exact blk_new _ _
      r1 := Kd.S_nil _ _ _ _ _
      r2 := Kd.S_nil _ _ _ _ _
      r3 := Kd.S_nil _ _ _ _ _
      below := below_step (Ch.onto HBw hch (fun i hi => hi ▸ HGR.out) HBw.size) HBd.out
      hv := HGV.out
      hr := HGR.out
      ha := by rw [hga]; exact Nat.le_trans HBw.size hch.size
      pl := hp1 })
  have hv1 : (w1.alloc (.cells #[.int .i64 b1, .slice none 0 0, .slice none 0 0, .slice none 0 0] 26)).cell? ⟨gv, 0, none⟩ = some (.pointer (some ⟨gr, 0, none⟩)) := by rw [← hwd]; exact (blk_cell HI.out.vb 0).trans rfl
  clear hrd hch HBw hp1 hb1 hs1
  go_wp2_with fail
  rw [← hwd]
  try rw [← hga]
  clear hv1 hwd hga
  refine (decode_times1 wa wd gv gr ga A c l b1 s1 _ _ _ _ _ HI.out HRa.out hc HW.out hL (by simp) (by simp)).mono ?_
  rintro e w2 hp
  obtain ⟨v1, rfl, hi⟩ := hp.out
  obtain ⟨es, he⟩ : ∃ b, (many l (step1 l) s1 []).2 = b := ⟨_, rfl⟩
  obtain ⟨s2, hs⟩ : ∃ b, (many l (step1 l) s1 []).1 = b := ⟨_, rfl⟩
  rw [he, hs] at hi
  have HI2 := Aside0.mk hi
  have HE3 := Aside0.mk he
  have HE4 := Aside0.mk hs
  have HL1 := Aside0.mk (show es.length ≤ 2147483647 by rw [← he]; exact many_len (f := step1) (fun x => by simp [step1]) HW.out s1)
  have hv1 : w2.cell? ⟨gv, 0, none⟩ = some (.pointer (some ⟨gr, 0, none⟩)) := (blk_cell HI2.out.vb 0).trans rfl
  clear hi he hs HI
  go_wp2_with fail
  refine (decode_times2 wa w2 gv gr ga A c l b1 s2 _ _ _ _ _ HI2.out HRa.out hc HW.out hL (by have := HL1.out; omega) (by simp)).mono ?_
  rintro e w3 hp
  obtain ⟨v2, rfl, hi⟩ := hp.out
  obtain ⟨ls, he⟩ : ∃ b, (many l (step2 l) s2 []).2 = b := ⟨_, rfl⟩
  obtain ⟨s3, hs⟩ : ∃ b, (many l (step2 l) s2 []).1 = b := ⟨_, rfl⟩
  rw [he, hs] at hi
  have HI3 := Aside0.mk hi
  have HE5 := Aside0.mk he
  have HE6 := Aside0.mk hs
  have HL2 := Aside0.mk (show ls.length ≤ 2147483647 by rw [← he]; exact many_len (f := step2) (fun x => by simp [step2]) HW.out s2)
  replace hv1 : w3.cell? ⟨gv, 0, none⟩ = some (.pointer (some ⟨gr, 0, none⟩)) := (blk_cell HI3.out.vb 0).trans rfl
  clear hi he hs HI2
  go_wp2_with fail
  refine (decode_times3 wa w3 gv gr ga A c l b1 s3 _ _ _ _ _ HI3.out HRa.out hc HW.out hL (by have := HL1.out; omega) (by have := HL2.out; omega)).mono ?_
  rintro e w4 hp
  obtain ⟨v3, rfl, hi⟩ := hp.out
  obtain ⟨ss, he⟩ : ∃ b, (many l (step3 l) s3 []).2 = b := ⟨_, rfl⟩
  obtain ⟨s4, hs⟩ : ∃ b, (many l (step3 l) s3 []).1 = b := ⟨_, rfl⟩
  rw [he, hs] at hi
  have HP := Aside0.mk (show parse l = ⟨b1, es, ls, ss, s4⟩ by unfold parse; rw [HE1.out, HE2.out, HE3.out, HE4.out, HE5.out, HE6.out, he, hs])
  clear HE1 HE2 HE3 HE4 HE5 HE6 he hs HI3
  obtain ⟨A1, c1, rfl, m1, g1⟩ := Kd.S_reads hi.r1
  obtain ⟨A2, c2, rfl, m2, g2⟩ := Kd.S_reads hi.r2
  obtain ⟨A3, c3, rfl, m3, g3⟩ := Kd.S_reads hi.r3
  have HI4 := Aside0.mk hi
  have G1 := Aside0.mk g1
  have G2 := Aside0.mk g2
  have G3 := Aside0.mk g3
  replace hv1 : w4.cell? ⟨gv, 0, none⟩ = some (.pointer (some ⟨gr, 0, none⟩)) := (blk_cell HI4.out.vb 0).trans rfl
  have ha0 : w4.cell? ⟨ga, 0, none⟩ = some (.int .i64 b1) := (blk_cell HI4.out.ab 0).trans rfl
  have ha1 : w4.cell? ⟨ga, 1, none⟩ = some (.slice A1 es.length c1) := (blk_cell HI4.out.ab 1).trans rfl
  have ha2 : w4.cell? ⟨ga, 2, none⟩ = some (.slice A2 ls.length c2) := (blk_cell HI4.out.ab 2).trans rfl
  have ha3 : w4.cell? ⟨ga, 3, none⟩ = some (.slice A3 ss.length c3) := (blk_cell HI4.out.ab 3).trans rfl
  clear hi g1 g2 g3
  go_wp2_with fail
  refine (snap_Encode b1 A1 A2 A3 c1 c2 c3 es ls ss w4 G1.out m1 G2.out m2 G3.out m3).mono ?_
  rintro e w5 hp
  obtain ⟨v5, b5, er, rfl, ho, hb, hyes, hno⟩ := hp.out
  obtain ⟨A5, c5, rfl, hc5, hr5⟩ := ho.reads
  have HI5 := Aside0.mk (HI4.out.later hb)
  have HR5 := Aside0.mk hr5
  have HYES := Aside0.mk hyes
  have HNO := Aside0.mk hno
  have HRl := Aside0.mk (Kd.C_below HRa.out HI5.out.below)
  replace hv1 : w5.cell? ⟨gv, 0, none⟩ = some (.pointer (some ⟨gr, 0, none⟩)) := (blk_cell HI5.out.vb 0).trans rfl
  obtain ⟨at4, bad⟩ := s4
  have hbd : w5.cell? ⟨gr, 2, none⟩ = some (.bool bad) := (blk_cell HI5.out.rb 2).trans rfl
  have HZ5 := Aside0.mk (blk_below HZ.out (Below.mono HI5.out.below (Nat.le_refl _)))
  have hz0 : w5.cell? ⟨gz, 0, none⟩ = some (.int .i64 0) := (blk_cell HZ5.out 0).trans rfl
  have hz1 : w5.cell? ⟨gz, 1, none⟩ = some (.slice none 0 0) := (blk_cell HZ5.out 1).trans rfl
  have hz2 : w5.cell? ⟨gz, 2, none⟩ = some (.slice none 0 0) := (blk_cell HZ5.out 2).trans rfl
  have hz3 : w5.cell? ⟨gz, 3, none⟩ = some (.slice none 0 0) := (blk_cell HZ5.out 3).trans rfl
  have hf0 := blk_frozen HZ5.out 0
  have hf1 := blk_frozen HZ5.out 1
  have hf2 := blk_frozen HZ5.out 2
  have hf3 := blk_frozen HZ5.out 3
  replace ha0 : w5.cell? ⟨ga, 0, none⟩ = some (.int .i64 b1) := (blk_cell HI5.out.ab 0).trans rfl
  replace ha1 : w5.cell? ⟨ga, 1, none⟩ = some (.slice A1 es.length c1) := (blk_cell HI5.out.ab 1).trans rfl
  replace ha2 : w5.cell? ⟨ga, 2, none⟩ = some (.slice A2 ls.length c2) := (blk_cell HI5.out.ab 2).trans rfl
  replace ha3 : w5.cell? ⟨ga, 3, none⟩ = some (.slice A3 ss.length c3) := (blk_cell HI5.out.ab 3).trans rfl
  have HBA5 := Aside0.mk (below_step HBa.out HI5.out.below)
  clear ho hb hyes hno hr5 hc5 HI4
  cases bad with
  | true =>
    have HB := Aside0.mk (show ¬ (parse l).ok l by rw [HP.out]; exact fun h => by have := h.1; simp at this)
    go_wp2_with fail
    refine bodyPost_ret (results_ct rfl _ _ gz 26 #[.int .i64 0, .slice none 0 0, .slice none 0 0, .slice none 0 0] (0, 0) _ rfl (put4 HZ5.out) Try.underlying26 rfl (by kernel_rfl)) rfl ?_
    exact ⟨0, _, _, _, [], [], [], 101, rfl, Kd.S_nil _ _ _ _ _, Kd.S_nil _ _ _ _ _, Kd.S_nil _ _ _ _ _, below_put4 (HBA5.out) (by rw [HGZ0.out]; exact Nat.le_refl _), fun h => absurd h HB.out, fun _ => ⟨rfl, rfl, rfl, rfl, rfl⟩⟩
  | false =>
    by_cases hgood : goodA b1 es ls ss
    · obtain ⟨hb5, her⟩ := HYES.out hgood
      subst her
      have HGD := Aside0.mk hgood
      have HB5 := Aside0.mk hb5
      clear hgood hb5
      go_wp2_with fail
      refine (bytes_Equal A5 A c5 c b5 l w5 HR5.out HRl.out).mono ?_
      rintro e w6 ⟨rfl, hd⟩
      have hb6 := hd.below
      obtain ⟨m6, rfl⟩ := hd.out
      clear hd
      cases hsm : sameB b5 l with
      | true =>
        have HB := Aside0.mk (show (parse l).ok l by rw [HP.out]; exact ⟨rfl, HGD.out, by rw [← HB5.out]; exact hsm⟩)
        go_wp2_with fail
        refine bodyPost_ret (results_ct rfl _ _ gz 26 #[.int .i64 b1, .slice A1 es.length c1, .slice A2 ls.length c2, .slice A3 ss.length c3] (0, 0) _ rfl (put4 (blk_below HZ5.out hb6)) Try.underlying26 rfl (by kernel_rfl)) rfl ?_
        have hZ6 := blk_below HZ5.out hb6
        exact ⟨b1, _, _, _, es, ls, ss, 0, rfl, S_put4 (Kd.S_lower (Kd.S_below HI5.out.r1 hb6) HBa.out.size) hZ6 (by decide), S_put4 (Kd.S_lower (Kd.S_below HI5.out.r2 hb6) HBa.out.size) hZ6 (by decide), S_put4 (Kd.S_lower (Kd.S_below HI5.out.r3 hb6) HBa.out.size) hZ6 (by decide), below_put4 (below_step HBA5.out hb6) (by rw [HGZ0.out]; exact Nat.le_refl _), fun _ => by rw [HP.out]; exact ⟨rfl, rfl, rfl, rfl, rfl⟩, fun h => absurd HB.out h⟩
      | false =>
        have HB := Aside0.mk (show ¬ (parse l).ok l by rw [HP.out]; exact fun h => by have := h.2.2; rw [← HB5.out, hsm] at this; cases this)
        go_wp2_with fail
        refine bodyPost_ret (results_ct rfl _ _ gz 26 #[.int .i64 0, .slice none 0 0, .slice none 0 0, .slice none 0 0] (0, 0) _ rfl (put4 (blk_below HZ5.out hb6)) Try.underlying26 rfl (by kernel_rfl)) rfl ?_
        exact ⟨0, _, _, _, [], [], [], 101, rfl, Kd.S_nil _ _ _ _ _, Kd.S_nil _ _ _ _ _, Kd.S_nil _ _ _ _ _, below_put4 (below_step HBA5.out hb6) (by rw [HGZ0.out]; exact Nat.le_refl _), fun h => absurd h HB.out, fun _ => ⟨rfl, rfl, rfl, rfl, rfl⟩⟩
    · obtain ⟨hb5, her⟩ := HNO.out hgood
      subst her
      have HB := Aside0.mk (show ¬ (parse l).ok l by rw [HP.out]; exact fun h => hgood h.2.1)
      clear hgood hb5
      go_wp2_with fail
      refine bodyPost_ret (results_ct rfl _ _ gz 26 #[.int .i64 0, .slice none 0 0, .slice none 0 0, .slice none 0 0] (0, 0) _ rfl (put4 HZ5.out) Try.underlying26 rfl (by kernel_rfl)) rfl ?_
      exact ⟨0, _, _, _, [], [], [], 101, rfl, Kd.S_nil _ _ _ _ _, Kd.S_nil _ _ _ _ _, Kd.S_nil _ _ _ _ _, below_put4 (HBA5.out) (by rw [HGZ0.out]; exact Nat.le_refl _), fun h => absurd h HB.out, fun _ => ⟨rfl, rfl, rfl, rfl, rfl⟩⟩

end Go.Proofs.Ytophfoenaekfjaa

namespace Go.Proofs.Ytophfoenaekfjaa
open Go.RowKit Go.Proofs.YtophfoenaekfjaaW.PrintWords Go.Proofs.YtophfoenaekfjaaW.PrintLast Go.Proofs.YtophfoenaekfjaaW.PrintMore Go.Proofs.Ytophfoenaekfjaa.PSnapEncodes
set_option linter.unusedVariables false
set_option linter.unusedSimpArgs false

def dnum (l : List Int) (s : Int × Bool) : Int × (Int × Bool) := if s.2 = true ∨ (getI l s.1).2.2 ≠ 0 then (0, (s.1, true)) else ((getI l s.1).1, ((getI l s.1).2.1, false))
def dget (l : List Int) (s : Int × Bool) : List Int × (Int × Bool) := if s.2 = true ∨ (getB l s.1 64).2.2 ≠ 0 then ([], (s.1, true)) else ((getB l s.1 64).1, ((getB l s.1 64).2.1, false))
theorem dnum_pl {l : List Int} {s : Int × Bool} (hw : wfB l) (hs : 0 ≤ s.1 ∧ s.1 ≤ l.length) : 0 ≤ (dnum l s).2.1 ∧ (dnum l s).2.1 ≤ l.length := by
  unfold dnum
  split
  · exact hs
  · rcases getI_cases (a := s.1) hw with ⟨n, nx, h, h0, h1, h2, h3, h4⟩ | h
    · rw [h]; exact ⟨by show 0 ≤ nx; omega, h4⟩
    · rw [h]; exact ⟨by show (0 : Int) ≤ 0; omega, by show (0 : Int) ≤ l.length; omega⟩
theorem dget_pl {l : List Int} {s : Int × Bool} (hw : wfB l) (hs : 0 ≤ s.1 ∧ s.1 ≤ l.length) : 0 ≤ (dget l s).2.1 ∧ (dget l s).2.1 ≤ l.length := by
  unfold dget
  split
  · exact hs
  · rcases getB_cases (a := s.1) (most := 64) hw with ⟨p, nx, h, h0, h1, h2, h3, h4, h5⟩ | h
    · rw [h]; exact ⟨by show 0 ≤ nx; omega, h5⟩
    · rw [h]; exact ⟨by show (0 : Int) ≤ 0; omega, by show (0 : Int) ≤ l.length; omega⟩
structure PostDn (w : World) (A : Option Addr) (n c : Nat) (r : Int × (Int × Bool)) (e : Ending) (w' : World) : Prop where
  mk ::
  out : e = .returned (.tuple #[.agg #[.slice A n c, .int .i64 r.2.1, .bool r.2.2], .int .i64 r.1]) ∧ Below w.heap.size w w'
structure PostDg (w : World) (A : Option Addr) (n c : Nat) (r : List Int × (Int × Bool)) (e : Ending) (w' : World) : Prop where
  mk ::
  out : ∃ v, e = .returned (.tuple #[.agg #[.slice A n c, .int .i64 r.2.1, .bool r.2.2], v]) ∧ OB w' w.heap.size v r.1 ∧ Below w.heap.size w w'
section
variable {W w : World} {g : Nat} {a b c a' b' c' : Value} {T : TypeId}
theorem put3 (h : W.heap[g]? = some (.cells #[a, b, c] T (0, 0))) : (((W.setCell ⟨g, 0, none⟩ a').setCell ⟨g, 1, none⟩ b').setCell ⟨g, 2, none⟩ c').heap[g]? = some (.cells #[a', b', c'] T (0, 0)) :=
  (blk_set (blk_set (blk_set h 0 a') 1 b') 2 c').trans rfl
theorem below_put3 (h : Below w.heap.size w W) (hg : w.heap.size ≤ g) : Below w.heap.size w (((W.setCell ⟨g, 0, none⟩ a').setCell ⟨g, 1, none⟩ b').setCell ⟨g, 2, none⟩ c') :=
  below_set (below_set (below_set h hg) hg) hg
end
set_option maxHeartbeats 4000000 in
set_option maxRecDepth 100000 in
theorem ref10_num (A : Option Addr) (c : Nat) (l : List Int) (s : Int × Bool) (w : World) (hr : CB w A l) (hc : l.length ≤ c) (hw : wfB l) (hs : 0 ≤ s.1 ∧ s.1 ≤ l.length) (hL : l.length ≤ 137438953472) :
    Calls Try.prog 79 #[.agg #[.slice A l.length c, .int .i64 s.1, .bool s.2]] w (PostDn w A l.length c (dnum l s)) := by
  have HR := Aside0.mk hr
  have HW := Aside0.mk hw
  obtain ⟨a, bad⟩ := s
  have ha0 := hs.1
  have ha1 := hs.2
  simp only at ha0 ha1
  clear hr hw hs
  obtain ⟨g1, hg1⟩ : ∃ g, g = w.heap.size := ⟨_, rfl⟩
  obtain ⟨g2, hg2⟩ : ∃ g, g = w.heap.size + 1 := ⟨_, rfl⟩
  obtain ⟨W, hW⟩ : ∃ W, W = (w.alloc (.cells #[.slice A l.length c, .int .i64 a, .bool bad] 118)).alloc (.cells #[.slice none 0 0, .int .i64 0, .bool false] 118) := ⟨_, rfl⟩
  have HB := Aside0.mk (show Below w.heap.size w W by rw [hW]; exact below_alloc (below_alloc (Below.refl _ _) _) _)
  have HB1 := Aside0.mk (show W.heap[g1]? = some (.cells #[.slice A l.length c, .int .i64 a, .bool bad] 118 (0, 0)) by rw [hW, hg1]; exact blk_alloc (blk_new _ _) _)
  have HB2 := Aside0.mk (show W.heap[g2]? = some (.cells #[.slice none 0 0, .int .i64 0, .bool false] 118 (0, 0)) by rw [hW, hg2, show w.heap.size + 1 = (w.alloc (.cells #[.slice A l.length c, .int .i64 a, .bool bad] 118)).heap.size by simp]; exact blk_new _ _)
  have HN := Aside0.mk (show g1 ≠ g2 by omega)
  have HG1 := Aside0.mk (show w.heap.size ≤ g1 by omega)
  have HG2 := Aside0.mk (show w.heap.size ≤ g2 by omega)
  have hc0 : ((w.alloc (.cells #[.slice A l.length c, .int .i64 a, .bool bad] 118)).alloc (.cells #[.slice none 0 0, .int .i64 0, .bool false] 118)).cell? ⟨w.heap.size, 0, none⟩ = some (.slice A l.length c) := by rw [← hW, ← hg1]; exact (blk_cell HB1.out 0).trans rfl
  have hc1 : ((w.alloc (.cells #[.slice A l.length c, .int .i64 a, .bool bad] 118)).alloc (.cells #[.slice none 0 0, .int .i64 0, .bool false] 118)).cell? ⟨w.heap.size, 1, none⟩ = some (.int .i64 a) := by rw [← hW, ← hg1]; exact (blk_cell HB1.out 1).trans rfl
  have hc2 : ((w.alloc (.cells #[.slice A l.length c, .int .i64 a, .bool bad] 118)).alloc (.cells #[.slice none 0 0, .int .i64 0, .bool false] 118)).cell? ⟨w.heap.size, 2, none⟩ = some (.bool bad) := by rw [← hW, ← hg1]; exact (blk_cell HB1.out 2).trans rfl
  have HGa := Aside0.mk hg1
  have HGb := Aside0.mk hg2
  go_enter Try.func79, Try.ntmps79
  go_wp2_with fail
  rw [← hW]
  try rw [← hg2]
  try rw [← hg1]
  clear hW hg1 hg2 hc0 hc1 hc2
  refine (ref01_GetInt A c l a W (Kd.C_below HR.out HB.out) hc HW.out (by omega) (by omega)).mono ?_
  rintro e w1 ⟨rfl, hb⟩
  obtain ⟨p, nx, er, hgt⟩ : ∃ p nx er, getI l a = (p, nx, er) := ⟨_, _, _, rfl⟩
  rw [hgt]
  have HGT := Aside0.mk hgt
  have HB3 := Aside0.mk (below_step HB.out hb)
  have HK1 := Aside0.mk (blk_below HB1.out hb)
  have HK2 := Aside0.mk (blk_below HB2.out hb)
  clear hb hgt
  have hc0 : w1.cell? ⟨g1, 0, none⟩ = some (.slice A l.length c) := (blk_cell HK1.out 0).trans rfl
  have hc1 : w1.cell? ⟨g1, 1, none⟩ = some (.int .i64 a) := (blk_cell HK1.out 1).trans rfl
  have hc2 : w1.cell? ⟨g1, 2, none⟩ = some (.bool bad) := (blk_cell HK1.out 2).trans rfl
  have hd0 : w1.cell? ⟨g2, 0, none⟩ = some (.slice none 0 0) := (blk_cell HK2.out 0).trans rfl
  have hf0 := blk_frozen HK2.out 0
  have hd1 : w1.cell? ⟨g2, 1, none⟩ = some (.int .i64 0) := (blk_cell HK2.out 1).trans rfl
  have hf1 := blk_frozen HK2.out 1
  have hd2 : w1.cell? ⟨g2, 2, none⟩ = some (.bool false) := (blk_cell HK2.out 2).trans rfl
  have hf2 := blk_frozen HK2.out 2
  cases bad with
  | true =>
    have HE := Aside0.mk (show dnum l (a, true) = (0, (a, true)) by unfold dnum; rw [HGT.out]; exact if_pos (.inl rfl))
    go_wp2_with fail
    refine bodyPost_ret (results_ct rfl _ _ g2 118 #[.slice A l.length c, .int .i64 a, .bool true] (0, 0) _ rfl (put3 HK2.out) Try.underlying118 rfl (by kernel_rfl)) rfl ?_
    exact ⟨by rw [HE.out]; rfl, below_put3 HB3.out HG2.out⟩
  | false =>
    cases hq : (er != 0) with
    | true =>
      have HE := Aside0.mk (show dnum l (a, false) = (0, (a, true)) by unfold dnum; rw [HGT.out]; exact if_pos (.inr (by simpa using hq)))
      go_wp2_with fail
      refine bodyPost_ret (results_ct rfl _ _ g2 118 #[.slice A l.length c, .int .i64 a, .bool true] (0, 0) _ rfl (put3 HK2.out) Try.underlying118 rfl (by kernel_rfl)) rfl ?_
      exact ⟨by rw [HE.out]; rfl, below_put3 HB3.out HG2.out⟩
    | false =>
      have HE := Aside0.mk (show dnum l (a, false) = (p, (nx, false)) by unfold dnum; rw [HGT.out]; exact if_neg (by simpa using hq))
      go_wp2_with fail
      refine bodyPost_ret (results_ct rfl _ _ g2 118 #[.slice A l.length c, .int .i64 nx, .bool false] (0, 0) _ rfl (put3 HK2.out) Try.underlying118 rfl (by kernel_rfl)) rfl ?_
      exact ⟨by rw [HE.out]; rfl, below_put3 HB3.out HG2.out⟩
set_option maxHeartbeats 4000000 in
set_option maxRecDepth 100000 in
theorem ref10_get (A : Option Addr) (c : Nat) (l : List Int) (s : Int × Bool) (w : World) (hr : CB w A l) (hc : l.length ≤ c) (hw : wfB l) (hs : 0 ≤ s.1 ∧ s.1 ≤ l.length) (hL : l.length ≤ 137438953472) :
    Calls Try.prog 80 #[.agg #[.slice A l.length c, .int .i64 s.1, .bool s.2]] w (PostDg w A l.length c (dget l s)) := by
  have HR := Aside0.mk hr
  have HW := Aside0.mk hw
  obtain ⟨a, bad⟩ := s
  have ha0 := hs.1
  have ha1 := hs.2
  simp only at ha0 ha1
  clear hr hw hs
  obtain ⟨g1, hg1⟩ : ∃ g, g = w.heap.size := ⟨_, rfl⟩
  obtain ⟨g2, hg2⟩ : ∃ g, g = w.heap.size + 1 := ⟨_, rfl⟩
  obtain ⟨W, hW⟩ : ∃ W, W = (w.alloc (.cells #[.slice A l.length c, .int .i64 a, .bool bad] 118)).alloc (.cells #[.slice none 0 0, .int .i64 0, .bool false] 118) := ⟨_, rfl⟩
  have HB := Aside0.mk (show Below w.heap.size w W by rw [hW]; exact below_alloc (below_alloc (Below.refl _ _) _) _)
  have HB1 := Aside0.mk (show W.heap[g1]? = some (.cells #[.slice A l.length c, .int .i64 a, .bool bad] 118 (0, 0)) by rw [hW, hg1]; exact blk_alloc (blk_new _ _) _)
  have HB2 := Aside0.mk (show W.heap[g2]? = some (.cells #[.slice none 0 0, .int .i64 0, .bool false] 118 (0, 0)) by rw [hW, hg2, show w.heap.size + 1 = (w.alloc (.cells #[.slice A l.length c, .int .i64 a, .bool bad] 118)).heap.size by simp]; exact blk_new _ _)
  have HN := Aside0.mk (show g1 ≠ g2 by omega)
  have HG1 := Aside0.mk (show w.heap.size ≤ g1 by omega)
  have HG2 := Aside0.mk (show w.heap.size ≤ g2 by omega)
  have hc0 : ((w.alloc (.cells #[.slice A l.length c, .int .i64 a, .bool bad] 118)).alloc (.cells #[.slice none 0 0, .int .i64 0, .bool false] 118)).cell? ⟨w.heap.size, 0, none⟩ = some (.slice A l.length c) := by rw [← hW, ← hg1]; exact (blk_cell HB1.out 0).trans rfl
  have hc1 : ((w.alloc (.cells #[.slice A l.length c, .int .i64 a, .bool bad] 118)).alloc (.cells #[.slice none 0 0, .int .i64 0, .bool false] 118)).cell? ⟨w.heap.size, 1, none⟩ = some (.int .i64 a) := by rw [← hW, ← hg1]; exact (blk_cell HB1.out 1).trans rfl
  have hc2 : ((w.alloc (.cells #[.slice A l.length c, .int .i64 a, .bool bad] 118)).alloc (.cells #[.slice none 0 0, .int .i64 0, .bool false] 118)).cell? ⟨w.heap.size, 2, none⟩ = some (.bool bad) := by rw [← hW, ← hg1]; exact (blk_cell HB1.out 2).trans rfl
  have HGa := Aside0.mk hg1
  have HGb := Aside0.mk hg2
  go_enter Try.func80, Try.ntmps80
  go_wp2_with fail
  rw [← hW]
  try rw [← hg2]
  try rw [← hg1]
  clear hW hg1 hg2 hc0 hc1 hc2
  refine (ref01_GetBytes A c l a 64 W (Kd.C_below HR.out HB.out) hc HW.out (by omega) hL (by omega)).mono ?_
  rintro e w1 hp
  obtain ⟨v, rfl, ho, hb⟩ := hp.out
  obtain ⟨p, nx, er, hgt⟩ : ∃ p nx er, getB l a 64 = (p, nx, er) := ⟨_, _, _, rfl⟩
  rw [hgt] at ho
  rw [hgt]
  obtain ⟨A1, c1, rfl, hcc, hrr⟩ := ho.reads
  have HO := Aside0.mk (OB.lower ho HB.out.size)
  have HGT := Aside0.mk hgt
  have HB3 := Aside0.mk (below_step HB.out hb)
  have HK1 := Aside0.mk (blk_below HB1.out hb)
  have HK2 := Aside0.mk (blk_below HB2.out hb)
  clear hb hgt ho hcc hrr
  have hc0 : w1.cell? ⟨g1, 0, none⟩ = some (.slice A l.length c) := (blk_cell HK1.out 0).trans rfl
  have hc1 : w1.cell? ⟨g1, 1, none⟩ = some (.int .i64 a) := (blk_cell HK1.out 1).trans rfl
  have hc2 : w1.cell? ⟨g1, 2, none⟩ = some (.bool bad) := (blk_cell HK1.out 2).trans rfl
  have hd0 : w1.cell? ⟨g2, 0, none⟩ = some (.slice none 0 0) := (blk_cell HK2.out 0).trans rfl
  have hf0 := blk_frozen HK2.out 0
  have hd1 : w1.cell? ⟨g2, 1, none⟩ = some (.int .i64 0) := (blk_cell HK2.out 1).trans rfl
  have hf1 := blk_frozen HK2.out 1
  have hd2 : w1.cell? ⟨g2, 2, none⟩ = some (.bool false) := (blk_cell HK2.out 2).trans rfl
  have hf2 := blk_frozen HK2.out 2
  cases bad with
  | true =>
    have HE := Aside0.mk (show dget l (a, true) = ([], (a, true)) by unfold dget; rw [HGT.out]; exact if_pos (.inl rfl))
    go_wp2_with fail
    refine bodyPost_ret (results_ct rfl _ _ g2 118 #[.slice A l.length c, .int .i64 a, .bool true] (0, 0) _ rfl (put3 HK2.out) Try.underlying118 rfl (by kernel_rfl)) rfl ?_
    exact ⟨_, by rw [HE.out], by rw [HE.out]; exact OB_nil _ _, below_put3 HB3.out HG2.out⟩
  | false =>
    cases hq : (er != 0) with
    | true =>
      have HE := Aside0.mk (show dget l (a, false) = ([], (a, true)) by unfold dget; rw [HGT.out]; exact if_pos (.inr (by simpa using hq)))
      go_wp2_with fail
      refine bodyPost_ret (results_ct rfl _ _ g2 118 #[.slice A l.length c, .int .i64 a, .bool true] (0, 0) _ rfl (put3 HK2.out) Try.underlying118 rfl (by kernel_rfl)) rfl ?_
      exact ⟨_, by rw [HE.out], by rw [HE.out]; exact OB_nil _ _, below_put3 HB3.out HG2.out⟩
    | false =>
      have HE := Aside0.mk (show dget l (a, false) = (p, (nx, false)) by unfold dget; rw [HGT.out]; exact if_neg (by simpa using hq))
      go_wp2_with fail
      refine bodyPost_ret (results_ct rfl _ _ g2 118 #[.slice A l.length c, .int .i64 nx, .bool false] (0, 0) _ rfl (put3 HK2.out) Try.underlying118 rfl (by kernel_rfl)) rfl ?_
      exact ⟨_, by rw [HE.out], by rw [HE.out]; exact (HO.out.ch (((Ch.refl w1 (fun k => k = g2)).setCell _ _ (.inl rfl)).setCell _ _ (.inl rfl) |>.setCell _ _ (.inl rfl)) (HO.out.ne_blk HK2.out (by decide))), below_put3 HB3.out HG2.out⟩

end Go.Proofs.Ytophfoenaekfjaa

