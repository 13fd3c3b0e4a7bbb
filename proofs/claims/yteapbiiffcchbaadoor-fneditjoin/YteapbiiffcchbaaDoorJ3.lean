/- The law FnEditJoin (the joined edit has the effect of both edits) returns true for every input and leaves its input as it was; conditions: the two tables of unicode/utf8 hold what the program's text lays (tied by the card). Part 3 of 6: joined by a program of the session's (wip/pack.py) out of its own texts and of the printed words, without remarks and without what nothing names. Not trusted: Lean checks it. -/
import Derived.Test.YteapbiiffcchbaaDoorJ2
namespace Go.Proofs.YteapbiiffcchbaaDoor.P
open Go.Proofs.YteapbiiffcchbaaDoor.G
open Go.RowKit Go.Proofs.YteapbiiffcchbaaDoorW.PrintWords Go.Proofs.YteapbiiffcchbaaDoorW.PrintLast Go.Proofs.YteapbiiffcchbaaDoorW.PrintMore
attribute [local go_sem] max2_int min2_int max_two min_two max_three min_three max_four min_four
set_option linter.unusedVariables false
set_option linter.unusedSimpArgs false
mutual
def spec_l01Cur_edit.j1 : Nat → List Int → Int → Int → Int → Int → Option (Int × Int × List Int × Int × Int)
 | 0, _, _, _, _, _ => none
 | k + 1, x1000, x1001, x1002, x64012000, x64012001 => (spec_l01Cur_once.f x1000 x1001 x1002 3).bind fun bt64021 => (if bt64021.1 = true then (some (x64012000, x64012001, ([] : List Int), bt64021.2.1, bt64021.2.2)) else ((spec_l01Cur_text.f k x1000 bt64021.2.1 bt64021.2.2 6).bind fun bt64024 => (some (x64012000, x64012001, bt64024.1, bt64024.2.1, bt64024.2.2))))
def spec_l01Cur_edit.j0 : Nat → Int → Int → Bool → List Int → Int → Int → List (S125) → Int → Int → Option (Int × Int × List Int × Int × Int)
 | 0, _, _, _, _, _, _, _, _, _ => none
 | k + 1, x7, x8, x35, x1000, x1001, x1002, x64007000, x64012000, x64012001 => if x35 = true then ((spec_l01Cur_cutOf.f k x1000 x1001 x1002 x64007000).bind fun bt64018 => (if (wrap64 (bt64018.1 - x7)) < 0 then (spec_l01Cur_edit.j1 k x1000 bt64018.2.1 bt64018.2.2 x64012000 (wrap64 (x8 - x7))) else (spec_l01Cur_edit.j1 k x1000 bt64018.2.1 bt64018.2.2 x64012000 (wrap64 (bt64018.1 - x7))))) else (spec_l01Cur_edit.j1 k x1000 x1001 x1002 x64012000 x64012001)
end
def spec_l01Cur_edit.f (k : Nat) (s0_0 : List Int) (s0_1 : Int) (s0_2 : Int) (l1 : List Int) : Option (Int × Int × List Int × Int × Int) := (spec_RopeOf.f k l1).bind fun bt64002 => ((spec_l01Cur_span.f k s0_0 s0_1 s0_2 bt64002.1).bind fun bt64007 => ((spec_l01Cur_once.f s0_0 bt64007.2.2.1 bt64007.2.2.2 2).bind fun bt64012 => (if bt64012.1 = true then (spec_l01Cur_edit.j1 k s0_0 bt64012.2.1 bt64012.2.2 bt64007.1 0) else (if (wrap64 (bt64007.2.1 - bt64007.1)) > 6 then ((spec_l01Cur_once.f s0_0 bt64012.2.1 bt64012.2.2 2).bind fun bt64015 => (spec_l01Cur_edit.j0 k bt64007.1 bt64007.2.1 bt64015.1 s0_0 bt64015.2.1 bt64015.2.2 bt64002.1 bt64007.1 (wrap64 (bt64007.2.1 - bt64007.1)))) else (spec_l01Cur_edit.j0 k bt64007.1 bt64007.2.1 false s0_0 bt64012.2.1 bt64012.2.2 bt64002.1 bt64007.1 (wrap64 (bt64007.2.1 - bt64007.1)))))))
theorem spec_l01Cur_edit.mono_l : ∀ k, (∀ y0 y1 y2 y3 y4, LeO (spec_l01Cur_edit.j1 k y0 y1 y2 y3 y4) (spec_l01Cur_edit.j1 (k + 1) y0 y1 y2 y3 y4)) ∧ (∀ y0 y1 y2 y3 y4 y5 y6 y7 y8, LeO (spec_l01Cur_edit.j0 k y0 y1 y2 y3 y4 y5 y6 y7 y8) (spec_l01Cur_edit.j0 (k + 1) y0 y1 y2 y3 y4 y5 y6 y7 y8))
 | 0 => ⟨fun _ _ _ _ _ r h => by simp [spec_l01Cur_edit.j1] at h, fun _ _ _ _ _ _ _ _ _ r h => by simp [spec_l01Cur_edit.j0] at h⟩
 | k + 1 => by
  obtain ⟨ih0, ih1⟩ := spec_l01Cur_edit.mono_l k
  refine ⟨?_, ?_⟩
  ·intro y0 y1 y2 y3 y4
   unfold spec_l01Cur_edit.j1
   repeat' first
   | (with_reducible exact ih0 _ _ _ _ _)
   | (with_reducible exact ih1 _ _ _ _ _ _ _ _ _)
   | (with_reducible exact spec_RopeOf.mono _ _)
   | (with_reducible exact spec_l01Cur_cutOf.mono _ _ _ _ _)
   | (with_reducible exact spec_l01Cur_span.mono _ _ _ _ _)
   | (with_reducible exact spec_l01Cur_text.mono _ _ _ _ _)
   | (with_reducible exact LeO.refl _)
   | (with_reducible exact LeO.none _)
   | (with_reducible refine LeO.ite ?_ ?_)
   | (with_reducible refine LeO.bind ?_ (fun _ => ?_))
   | exact ih0 _ _ _ _ _
   | exact ih1 _ _ _ _ _ _ _ _ _
   | exact spec_RopeOf.mono _ _
   | exact spec_l01Cur_cutOf.mono _ _ _ _ _
   | exact spec_l01Cur_span.mono _ _ _ _ _
   | exact spec_l01Cur_text.mono _ _ _ _ _
   | exact LeO.none _
   | refine LeO.ite ?_ ?_
   | refine LeO.bind ?_ (fun _ => ?_)
  ·intro y0 y1 y2 y3 y4 y5 y6 y7 y8
   unfold spec_l01Cur_edit.j0
   repeat' first
   | (with_reducible exact ih0 _ _ _ _ _)
   | (with_reducible exact ih1 _ _ _ _ _ _ _ _ _)
   | (with_reducible exact spec_RopeOf.mono _ _)
   | (with_reducible exact spec_l01Cur_cutOf.mono _ _ _ _ _)
   | (with_reducible exact spec_l01Cur_span.mono _ _ _ _ _)
   | (with_reducible exact spec_l01Cur_text.mono _ _ _ _ _)
   | (with_reducible exact LeO.refl _)
   | (with_reducible exact LeO.none _)
   | (with_reducible refine LeO.ite ?_ ?_)
   | (with_reducible refine LeO.bind ?_ (fun _ => ?_))
   | exact ih0 _ _ _ _ _
   | exact ih1 _ _ _ _ _ _ _ _ _
   | exact spec_RopeOf.mono _ _
   | exact spec_l01Cur_cutOf.mono _ _ _ _ _
   | exact spec_l01Cur_span.mono _ _ _ _ _
   | exact spec_l01Cur_text.mono _ _ _ _ _
   | exact LeO.none _
   | refine LeO.ite ?_ ?_
   | refine LeO.bind ?_ (fun _ => ?_)
theorem spec_l01Cur_edit.mono : ∀ a0 a1 a2 a3 k, LeO (spec_l01Cur_edit.f k a0 a1 a2 a3) (spec_l01Cur_edit.f (k + 1) a0 a1 a2 a3) := by
 intro a0 a1 a2 a3 k
 obtain ⟨ih0, ih1⟩ := spec_l01Cur_edit.mono_l k
 unfold spec_l01Cur_edit.f
 repeat' first
   | (with_reducible exact ih0 _ _ _ _ _)
   | (with_reducible exact ih1 _ _ _ _ _ _ _ _ _)
   | (with_reducible exact spec_RopeOf.mono _ _)
   | (with_reducible exact spec_l01Cur_cutOf.mono _ _ _ _ _)
   | (with_reducible exact spec_l01Cur_span.mono _ _ _ _ _)
   | (with_reducible exact spec_l01Cur_text.mono _ _ _ _ _)
   | (with_reducible exact LeO.refl _)
   | (with_reducible exact LeO.none _)
   | (with_reducible refine LeO.ite ?_ ?_)
   | (with_reducible refine LeO.bind ?_ (fun _ => ?_))
   | exact ih0 _ _ _ _ _
   | exact ih1 _ _ _ _ _ _ _ _ _
   | exact spec_RopeOf.mono _ _
   | exact spec_l01Cur_cutOf.mono _ _ _ _ _
   | exact spec_l01Cur_span.mono _ _ _ _ _
   | exact spec_l01Cur_text.mono _ _ _ _ _
   | exact LeO.none _
   | refine LeO.ite ?_ ?_
   | refine LeO.bind ?_ (fun _ => ?_)
set_option maxHeartbeats 8000000 in
set_option maxRecDepth 100000 in
theorem spec_l01Cur_edit.calls (k : Nat) (g : Nat) (s0_0 : List Int) (s0_1 : Int) (s0_2 : Int) (A1 : Option Addr) (c1 : Nat) (l1 : List Int) (r1 : Int) (r2 : Int) (r3 : List Int) (r4 : Int) (r5 : Int) (w0 w : World) (hI : IsS141 w0 w g s0_0 s0_1 s0_2) (hB : Below w0.heap.size w0 w) (hr1 : Kd.C (Kd.int .u8) w A1 l1.length l1) (hc1 : l1.length ≤ c1) (hf1 : ∀ ad, A1 = some ad → 0 < l1.length → ad.block ≠ g) (h : spec_l01Cur_edit.f k s0_0 s0_1 s0_2 l1 = some (r1, r2, r3, r4, r5)) :
  Calls Tryd.prog 63 #[.pointer (some ⟨g, 0, none⟩), .slice A1 l1.length c1] w fun e w' => ∃ v2_ : Value, e = .returned (.agg #[.int .i64 r1, .int .i64 r2, v2_]) ∧ Kd.R (Kd.int .u8) 5 w' w.heap.size (fun _ => True) v2_ r3 ∧ IsS141 w0 w' g s0_0 r4 r5 ∧ Below w0.heap.size w0 w' ∧ KeepBut w w' g none := by
 have hu25 := Tryd.underlying25
 have hu71 := Tryd.underlying71
 have HR1 := Aside0.mk hr1
 have HC1 := Aside0.mk hc1
 clear hr1 hc1
 have HI0 := Aside0.mk hI
 have HK := Aside0.mk (KeepBut.refl w g none)
 have HL := Aside0.mk hB.size
 clear hI
 have HW0 := Aside0.mk hB.size
 have HB := Aside0.mk hB
 clear hB
 have H : ((spec_RopeOf.f k l1).bind fun bt64002 => ((spec_l01Cur_span.f k s0_0 s0_1 s0_2 bt64002.1).bind fun bt64007 => ((spec_l01Cur_once.f s0_0 bt64007.2.2.1 bt64007.2.2.2 2).bind fun bt64012 => (if bt64012.1 = true then (spec_l01Cur_edit.j1 k s0_0 bt64012.2.1 bt64012.2.2 bt64007.1 0) else (if (wrap64 (bt64007.2.1 - bt64007.1)) > 6 then ((spec_l01Cur_once.f s0_0 bt64012.2.1 bt64012.2.2 2).bind fun bt64015 => (spec_l01Cur_edit.j0 k bt64007.1 bt64007.2.1 bt64015.1 s0_0 bt64015.2.1 bt64015.2.2 bt64002.1 bt64007.1 (wrap64 (bt64007.2.1 - bt64007.1)))) else (spec_l01Cur_edit.j0 k bt64007.1 bt64007.2.1 false s0_0 bt64012.2.1 bt64012.2.2 bt64002.1 bt64007.1 (wrap64 (bt64007.2.1 - bt64007.1)))))))) = some (r1, r2, r3, r4, r5) := h
 clear h
 replace H := Option.bind_eq_some_iff.mp H
 obtain ⟨⟨t64002, t64005⟩, A30, H⟩ := H
 replace H : ((spec_l01Cur_span.f k s0_0 s0_1 s0_2 t64002).bind fun bt64007 => ((spec_l01Cur_once.f s0_0 bt64007.2.2.1 bt64007.2.2.2 2).bind fun bt64012 => (if bt64012.1 = true then (spec_l01Cur_edit.j1 k s0_0 bt64012.2.1 bt64012.2.2 bt64007.1 0) else (if (wrap64 (bt64007.2.1 - bt64007.1)) > 6 then ((spec_l01Cur_once.f s0_0 bt64012.2.1 bt64012.2.2 2).bind fun bt64015 => (spec_l01Cur_edit.j0 k bt64007.1 bt64007.2.1 bt64015.1 s0_0 bt64015.2.1 bt64015.2.2 t64002 bt64007.1 (wrap64 (bt64007.2.1 - bt64007.1)))) else (spec_l01Cur_edit.j0 k bt64007.1 bt64007.2.1 false s0_0 bt64012.2.1 bt64012.2.2 t64002 bt64007.1 (wrap64 (bt64007.2.1 - bt64007.1))))))) = some (r1, r2, r3, r4, r5) := H
 have A3 := Aside0.mk A30
 clear A30
 replace H := Option.bind_eq_some_iff.mp H
 obtain ⟨⟨t64007, t64008, t64009, t64010⟩, A40, H⟩ := H
 replace H : ((spec_l01Cur_once.f s0_0 t64009 t64010 2).bind fun bt64012 => (if bt64012.1 = true then (spec_l01Cur_edit.j1 k s0_0 bt64012.2.1 bt64012.2.2 t64007 0) else (if (wrap64 (t64008 - t64007)) > 6 then ((spec_l01Cur_once.f s0_0 bt64012.2.1 bt64012.2.2 2).bind fun bt64015 => (spec_l01Cur_edit.j0 k t64007 t64008 bt64015.1 s0_0 bt64015.2.1 bt64015.2.2 t64002 t64007 (wrap64 (t64008 - t64007)))) else (spec_l01Cur_edit.j0 k t64007 t64008 false s0_0 bt64012.2.1 bt64012.2.2 t64002 t64007 (wrap64 (t64008 - t64007)))))) = some (r1, r2, r3, r4, r5) := H
 have A4 := Aside0.mk A40
 clear A40
 replace H := Option.bind_eq_some_iff.mp H
 obtain ⟨⟨t64012, t64013, t64014⟩, A50, H⟩ := H
 replace H : (if t64012 = true then (spec_l01Cur_edit.j1 k s0_0 t64013 t64014 t64007 0) else (if (wrap64 (t64008 - t64007)) > 6 then ((spec_l01Cur_once.f s0_0 t64013 t64014 2).bind fun bt64015 => (spec_l01Cur_edit.j0 k t64007 t64008 bt64015.1 s0_0 bt64015.2.1 bt64015.2.2 t64002 t64007 (wrap64 (t64008 - t64007)))) else (spec_l01Cur_edit.j0 k t64007 t64008 false s0_0 t64013 t64014 t64002 t64007 (wrap64 (t64008 - t64007))))) = some (r1, r2, r3, r4, r5) := H
 have A5 := Aside0.mk A50
 clear A50
 have HC6 := Aside0.mk H
 clear H
 go_enter Tryd.func63, Tryd.ntmps63
 go_upto_if 27 with (first | ((with_reducible refine gate_dst (N := 4) rfl ?_); refine boxE 4 #[.int .i64 0, .int .i64 0, .slice none 0 0] 25 ?_; intro gb64001 hg w7 BK64001 hb; have GW64001 := Aside0.mk ((by rw [hg]; exact (keep_size (w := w) (g := g) (row := none) hkk) : w.heap.size ≤ gb64001)); have GE64001 := Aside0.mk ((Nat.le_trans HW0.out (by rw [hg]; exact (keep_size (w := w) (g := g) (row := none) hkk) : w.heap.size ≤ gb64001) : w0.heap.size ≤ gb64001)); have NB0_64001 := Aside0.mk ((by rw [hg]; exact Nat.ne_of_lt (IsS141.lt (show IsS141 w0 _ g s0_0 s0_1 s0_2 from pIIsS141 HI0)) : g ≠ gb64001)); have NB64001_0 := Aside0.mk ((by rw [hg]; exact Nat.ne_of_gt (IsS141.lt (show IsS141 w0 _ g s0_0 s0_1 s0_2 from pIIsS141 HI0)) : gb64001 ≠ g)); replace HK := Aside0.mk (KeepBut.trans hkk (KeepBut.of_below hb g none) (.inl rfl)); replace HB := Aside0.mk (below_step hbIsS141 hb); replace HI0 := Aside0.mk (IsS141.below (pIIsS141 HI0) hb); clear hb hg) | ((with_reducible refine gate_callee (f := 121) rfl ?_); refine goesM (some 12) Tryd.func121 #[.slice A1 l1.length c1] ?_; (with_reducible refine (spec_RopeOf.calls k _ _ l1 t64002 t64005 _ ?side1 ?side2 A3.out).mono ?_); (case side1 => exact Kd.C_keep 0 HR1.out (by repeat (first | (with_reducible first | exact HK.out | apply KeepBut.set_ | apply keep_drewN | apply keep_drew | apply keep_alloc | refine keep_far ?_ GW64001.out _) | exact HK.out)) hf1); (case side2 => exact HC1.out); rintro e w8 ⟨v64003, rfl, ho0, hb⟩; refine ⟨_, rfl, ?_⟩; have HO64004 := Aside0.mk (Kd.S_lower ho0 (keep_size (w := w) (g := g) (row := none) (by repeat (first | (with_reducible first | exact HK.out | apply KeepBut.set_ | apply keep_drewN | apply keep_drew | apply keep_alloc | refine keep_far ?_ GW64001.out _) | exact HK.out)))); replace BK64001 := Aside0.mk (bkb BK64001 hb); replace HK := Aside0.mk (KeepBut.trans (by repeat (first | (with_reducible first | exact HK.out | apply KeepBut.set_ | apply keep_drewN | apply keep_drew | apply keep_alloc | refine keep_far ?_ GW64001.out _) | exact HK.out)) (KeepBut.of_below hb g none) (.inl rfl)); replace HB := Aside0.mk (below_step hbIsS141 hb); replace HI0 := Aside0.mk (IsS141.below (pIIsS141 HI0) hb); (try clear hb); (try clear hb2); (try clear hk); (try clear hi); (try clear ho0)) | ((with_reducible refine gate_dst (N := 5) rfl ?_); refine boxE 5 #[.slice none 0 0] 71 ?_; intro gb64006 hg w9 BK64006 hb; have GW64006 := Aside0.mk ((by rw [hg]; exact (keep_size (w := w) (g := g) (row := none) (by repeat (first | (with_reducible first | exact HK.out | apply KeepBut.set_ | apply keep_drewN | apply keep_drew | apply keep_alloc | refine keep_far ?_ GW64001.out _) | exact HK.out))) : w.heap.size ≤ gb64006)); have GE64006 := Aside0.mk ((Nat.le_trans HW0.out (by rw [hg]; exact (keep_size (w := w) (g := g) (row := none) (by repeat (first | (with_reducible first | exact HK.out | apply KeepBut.set_ | apply keep_drewN | apply keep_drew | apply keep_alloc | refine keep_far ?_ GW64001.out _) | exact HK.out))) : w.heap.size ≤ gb64006) : w0.heap.size ≤ gb64006)); have NB64001_64006 := Aside0.mk (nbl BK64001 hg); have NB64006_64001 := Aside0.mk (nbg BK64001 hg); have NB0_64006 := Aside0.mk ((by rw [hg]; exact Nat.ne_of_lt (IsS141.lt (show IsS141 w0 _ g s0_0 s0_1 s0_2 from pIIsS141 HI0)) : g ≠ gb64006)); have NB64006_0 := Aside0.mk ((by rw [hg]; exact Nat.ne_of_gt (IsS141.lt (show IsS141 w0 _ g s0_0 s0_1 s0_2 from pIIsS141 HI0)) : gb64006 ≠ g)); replace HO64004 := Aside0.mk (Kd.S_below (hrnS HO64004) hb); replace BK64001 := Aside0.mk (bkb BK64001 hb); replace HK := Aside0.mk (KeepBut.trans (by repeat (first | (with_reducible first | exact HK.out | apply KeepBut.set_ | apply keep_drewN | apply keep_drew | apply keep_alloc | refine keep_far ?_ GW64001.out _) | exact HK.out)) (KeepBut.of_below hb g none) (.inl rfl)); replace HB := Aside0.mk (below_step hbIsS141 hb); replace HI0 := Aside0.mk (IsS141.below (pIIsS141 HI0) hb); clear hb hg; obtain ⟨Ao10, co10, eo10⟩ := Kd.S_slice HO64004.out; subst eo10; have hnb11 := NB64006_64001.out; have hnc11 := NB64001_64006.out; have hnb12 := NB64006_0.out; have hnc12 := NB0_64006.out; have hcz13_0 : w9.cell? ⟨gb64006, 0, none⟩ = some (.slice none 0 0) := (blk_cell BK64006.out 0).trans rfl; have hfz13_0 := blk_frozen BK64006.out 0) | ((with_reducible refine gate_callee (f := 115) rfl ?_); refine goesM (some 18) Tryd.func115 #[.pointer (some ⟨g, 0, none⟩), .agg #[.slice Ao10 t64002.length co10]] ?_; (with_reducible refine (spec_l01Cur_span.calls k g s0_0 s0_1 s0_2 _ _ t64002 t64007 t64008 t64009 t64010 w0 _ ?side1 ?side2 ?side3 ?side4 A4.out).mono ?_); (case side1 => exact pIIsS141 HI0); (case side2 => exact hbIsS141); (case side3 => exact Kd.C_foot_own ((Kd.S_R (IsS141.apartS (show IsS141 w0 _ g s0_0 s0_1 s0_2 from pIIsS141 HI0) (by (with_reducible repeat (first | apply Kd.S_alloc | apply Kd.S_drewN | apply Kd.S_drew)); exact (Kd.S_mono (Kd.S_far (p := ⟨gb64006, 0, none⟩) (Kd.S_types HO64004.out BK64006.out (by decide)) (fun _ hk => hk.2) (.slice Ao10 t64002.length co10)) (fun _ h_ => h_.1))) (by decide)))) (fun _ h_ => h_.2)); (case side4 => exact (Kd.S_reads' HO64004.out).2.1); rintro e w14 ⟨rfl, hi, hb, hk⟩; refine ⟨_, rfl, ?_⟩; replace BK64001 := Aside0.mk (KeepBut.blk hk (g' := gb64001) (o := .cells #[.int .i64 0, .int .i64 0, .slice none 0 0] 25 (0, 0)) (by refine pB ?_; refine blk_far ?_ NB64001_64006.out _; refine pB ?_; exact BK64001.out) NB64001_0.out (by simp)); replace HO64004 := Aside0.mk (Kd.S_mono (Kd.S_keep (IsS141.apartS (show IsS141 w0 _ g s0_0 s0_1 s0_2 from pIIsS141 HI0) (by (with_reducible repeat (first | apply Kd.S_alloc | apply Kd.S_drewN | apply Kd.S_drew)); exact (Kd.S_mono (Kd.S_far (p := ⟨gb64006, 0, none⟩) (Kd.S_types HO64004.out BK64006.out (by decide)) (fun _ hk => hk.2) (.slice Ao10 t64002.length co10)) (fun _ h_ => h_.1))) (by decide)) hk (fun _ h => h.2)) (fun _ h => h.1)); replace BK64006 := Aside0.mk (KeepBut.blk hk (g' := gb64006) (o := .cells #[.slice Ao10 t64002.length co10] 71 (0, 0)) (by refine pB ?_; refine blk_put (cs := #[.slice none 0 0]) ?_ 0 _ rfl; refine pB ?_; exact BK64006.out) NB64006_0.out (by simp)); replace HK := Aside0.mk (KeepBut.trans (by repeat (first | (with_reducible first | exact HK.out | apply KeepBut.set_ | apply keep_drewN | apply keep_drew | apply keep_alloc | refine keep_far ?_ GW64001.out _ | refine keep_far ?_ GW64006.out _) | exact HK.out)) hk (.inl rfl)); replace HB := Aside0.mk (hb); replace HI0 := Aside0.mk (hi); (try clear hb); (try clear hb2); (try clear hk); (try clear hi)) | ((with_reducible refine gate_dst (N := 9) rfl ?_); refine boxE 9 #[.int .i64 0, .int .i64 0, .slice none 0 0] 25 ?_; intro gb64011 hg w15 BK64011 hb; have GW64011 := Aside0.mk ((by rw [hg]; exact (keep_size (w := w) (g := g) (row := none) (by repeat (first | (with_reducible first | exact HK.out | apply KeepBut.set_ | apply keep_drewN | apply keep_drew | apply keep_alloc | refine keep_far ?_ GW64001.out _ | refine keep_far ?_ GW64006.out _) | exact HK.out))) : w.heap.size ≤ gb64011)); have GE64011 := Aside0.mk ((Nat.le_trans HW0.out (by rw [hg]; exact (keep_size (w := w) (g := g) (row := none) (by repeat (first | (with_reducible first | exact HK.out | apply KeepBut.set_ | apply keep_drewN | apply keep_drew | apply keep_alloc | refine keep_far ?_ GW64001.out _ | refine keep_far ?_ GW64006.out _) | exact HK.out))) : w.heap.size ≤ gb64011) : w0.heap.size ≤ gb64011)); have NB64001_64011 := Aside0.mk (nbl BK64001 hg); have NB64011_64001 := Aside0.mk (nbg BK64001 hg); have NB64006_64011 := Aside0.mk (nbl BK64006 hg); have NB64011_64006 := Aside0.mk (nbg BK64006 hg); have NB0_64011 := Aside0.mk ((by rw [hg]; exact Nat.ne_of_lt (IsS141.lt (show IsS141 w0 _ g s0_0 t64009 t64010 from pIIsS141 HI0)) : g ≠ gb64011)); have NB64011_0 := Aside0.mk ((by rw [hg]; exact Nat.ne_of_gt (IsS141.lt (show IsS141 w0 _ g s0_0 t64009 t64010 from pIIsS141 HI0)) : gb64011 ≠ g)); replace HO64004 := Aside0.mk (Kd.S_below (hrnS HO64004) hb); replace BK64001 := Aside0.mk (bkb BK64001 hb); replace BK64006 := Aside0.mk (bkb BK64006 hb); replace HK := Aside0.mk (KeepBut.trans (by repeat (first | (with_reducible first | exact HK.out | apply KeepBut.set_ | apply keep_drewN | apply keep_drew | apply keep_alloc | refine keep_far ?_ GW64001.out _ | refine keep_far ?_ GW64006.out _) | exact HK.out)) (KeepBut.of_below hb g none) (.inl rfl)); replace HB := Aside0.mk (below_step hbIsS141 hb); replace HI0 := Aside0.mk (IsS141.below (pIIsS141 HI0) hb); clear hb hg; have hnb16 := NB64011_64001.out; have hnc16 := NB64001_64011.out; have hnb17 := NB64011_64006.out; have hnc17 := NB64006_64011.out; have hnb18 := NB64011_0.out; have hnc18 := NB0_64011.out; have hcz19_0 : w15.cell? ⟨gb64011, 0, none⟩ = some (.int .i64 0) := (blk_cell BK64011.out 0).trans rfl; have hcz19_1 : w15.cell? ⟨gb64011, 1, none⟩ = some (.int .i64 0) := (blk_cell BK64011.out 1).trans rfl; have hcz19_2 : w15.cell? ⟨gb64011, 2, none⟩ = some (.slice none 0 0) := (blk_cell BK64011.out 2).trans rfl; have hfz19_0 := blk_frozen BK64011.out 0; have hfz19_1 := blk_frozen BK64011.out 1; have hfz19_2 := blk_frozen BK64011.out 2) | ((with_reducible refine gate_callee (f := 70) rfl ?_); refine goesM (some 27) Tryd.func70 #[.pointer (some ⟨g, 0, none⟩), .int .i64 2] ?_; (with_reducible refine (spec_l01Cur_once.calls g s0_0 t64009 t64010 2 t64012 t64013 t64014 w0 _ ?side1 ?side2 A5.out).mono ?_); (case side1 => exact pIIsS141 HI0); (case side2 => exact hbIsS141); rintro e w20 ⟨rfl, hi, hb, hk⟩; refine ⟨_, rfl, ?_⟩; replace BK64001 := Aside0.mk (KeepBut.blk hk (g' := gb64001) (o := .cells #[.int .i64 0, .int .i64 0, .slice none 0 0] 25 (0, 0)) (by refine pB ?_; refine blk_far ?_ NB64001_64011.out _; refine pB ?_; refine blk_far ?_ NB64001_64011.out _; refine pB ?_; refine blk_far ?_ NB64001_64011.out _; refine pB ?_; exact BK64001.out) NB64001_0.out (by simp)); replace HO64004 := Aside0.mk (Kd.S_mono (Kd.S_keep (IsS141.apartS (show IsS141 w0 _ g s0_0 t64009 t64010 from pIIsS141 HI0) (by (with_reducible repeat (first | apply Kd.S_alloc | apply Kd.S_drewN | apply Kd.S_drew)); exact (Kd.S_mono (Kd.S_far (p := ⟨gb64011, 2, none⟩) (Kd.S_far (p := ⟨gb64011, 1, none⟩) (Kd.S_far (p := ⟨gb64011, 0, none⟩) (Kd.S_types HO64004.out BK64011.out (by decide)) (fun _ hk => hk.2) (.int .i64 t64007)) (fun _ hk => hk.2) (.int .i64 (wrap64 (t64008 - t64007)))) (fun _ hk => hk.2) (.slice none 0 0)) (fun _ h_ => h_.1))) (by decide)) hk (fun _ h => h.2)) (fun _ h => h.1)); replace BK64006 := Aside0.mk (KeepBut.blk hk (g' := gb64006) (o := .cells #[.slice Ao10 t64002.length co10] 71 (0, 0)) (by refine pB ?_; refine blk_far ?_ NB64006_64011.out _; refine pB ?_; refine blk_far ?_ NB64006_64011.out _; refine pB ?_; refine blk_far ?_ NB64006_64011.out _; refine pB ?_; exact BK64006.out) NB64006_0.out (by simp)); replace BK64011 := Aside0.mk (KeepBut.blk hk (g' := gb64011) (o := .cells #[.int .i64 t64007, .int .i64 (wrap64 (t64008 - t64007)), .slice none 0 0] 25 (0, 0)) (by refine pB ?_; refine blk_put (cs := #[.int .i64 t64007, .int .i64 (wrap64 (t64008 - t64007)), .slice none 0 0]) ?_ 2 _ rfl; refine pB ?_; refine blk_put (cs := #[.int .i64 t64007, .int .i64 0, .slice none 0 0]) ?_ 1 _ rfl; refine pB ?_; refine blk_put (cs := #[.int .i64 0, .int .i64 0, .slice none 0 0]) ?_ 0 _ rfl; refine pB ?_; exact BK64011.out) NB64011_0.out (by simp)); replace HK := Aside0.mk (KeepBut.trans (by repeat (first | (with_reducible first | exact HK.out | apply KeepBut.set_ | apply keep_drewN | apply keep_drew | apply keep_alloc | refine keep_far ?_ GW64001.out _ | refine keep_far ?_ GW64006.out _ | refine keep_far ?_ GW64011.out _) | exact HK.out)) hk (.inl rfl)); replace HB := Aside0.mk (hb); replace HI0 := Aside0.mk (hi); (try clear hb); (try clear hb2); (try clear hk); (try clear hi)))
 (try simp only [Act.put, List.setIfInBounds_toArray, List.set_cons_zero, List.set_cons_succ])
 go_cut [] (fun wc => ∃ (kq : Nat) (x1001_5 : Int) (x1002_5 : Int) (x64012001_5 : Int), Aside0 (spec_l01Cur_edit.j1 kq s0_0 x1001_5 x1002_5 t64007 x64012001_5 = some (r1, r2, r3, r4, r5)) ∧ Aside0 (kq ≤ k) ∧ Aside0 (Kd.S k125 125 wc w.heap.size (fun _ => True) (.slice Ao10 t64002.length co10) t64002) ∧ Aside0 (wc.heap[gb64001]? = some (.cells #[.int .i64 0, .int .i64 0, (.slice none 0 0)] 25 (0, 0))) ∧ Aside0 (wc.heap[gb64006]? = some (.cells #[(.slice Ao10 t64002.length co10)] 71 (0, 0))) ∧ Aside0 (wc.heap[gb64011]? = some (.cells #[.int .i64 t64007, .int .i64 x64012001_5, (.slice none 0 0)] 25 (0, 0))) ∧ Aside0 (IsS141 w0 wc g s0_0 x1001_5 x1002_5) ∧ Aside0 (KeepBut w wc g none) ∧ Aside0 (Below w0.heap.size w0 wc))
 case first =>
  have H := HC6.out
  clear HC6
  by_cases c21 : t64012 = true
  ·subst c21
   have H1 : (spec_l01Cur_edit.j1 k s0_0 t64013 t64014 t64007 0) = some (r1, r2, r3, r4, r5) := by rw [if_pos rfl] at H; exact H
   clear H
   have H := H1
   clear H1
   have H' := Aside0.mk H
   clear H
   have hnb22 := NB64011_64001.out
   have hnc22 := NB64001_64011.out
   have hnb23 := NB64011_64006.out
   have hnc23 := NB64006_64011.out
   have hnb24 := NB64011_0.out
   have hnc24 := NB0_64011.out
   have hcz25_0 : w20.cell? ⟨gb64011, 0, none⟩ = some (.int .i64 t64007) := (blk_cell BK64011.out 0).trans rfl
   have hcz25_1 : w20.cell? ⟨gb64011, 1, none⟩ = some (.int .i64 (wrap64 (t64008 - t64007))) := (blk_cell BK64011.out 1).trans rfl
   have hcz25_2 : w20.cell? ⟨gb64011, 2, none⟩ = some (.slice none 0 0) := (blk_cell BK64011.out 2).trans rfl
   have hfz25_0 := blk_frozen BK64011.out 0
   have hfz25_1 := blk_frozen BK64011.out 1
   have hfz25_2 := blk_frozen BK64011.out 2
   go_wp2
   go_meet
   case rel => exact ⟨_, (t64013), (t64014), (0), H', ⟨by first | omega | exact Nat.le_refl _⟩, ⟨by (with_reducible repeat (first | apply Kd.S_alloc | apply Kd.S_drewN | apply Kd.S_drew)); exact Kd.S_mono (Kd.S_far (p := ⟨gb64011, 1, none⟩) (Kd.S_types HO64004.out BK64011.out (by decide)) (fun _ hk => hk.2) (.int .i64 0)) (fun _ hk => trivial)⟩, ⟨by refine pB ?_; refine blk_far ?_ NB64001_64011.out _; refine pB ?_; exact BK64001.out⟩, ⟨by refine pB ?_; refine blk_far ?_ NB64006_64011.out _; refine pB ?_; exact BK64006.out⟩, ⟨by refine pB ?_; refine blk_put (cs := #[.int .i64 t64007, .int .i64 (wrap64 (t64008 - t64007)), .slice none 0 0]) ?_ 1 _ rfl; refine pB ?_; exact BK64011.out⟩, ⟨pIIsS141 HI0⟩, ⟨by repeat (first | (with_reducible first | exact HK.out | apply KeepBut.set_ | apply keep_drewN | apply keep_drew | apply keep_alloc | refine keep_far ?_ GW64001.out _ | refine keep_far ?_ GW64006.out _ | refine keep_far ?_ GW64011.out _) | exact HK.out)⟩, ⟨hbIsS141⟩⟩
  ·replace c21 := Bool.eq_false_iff.mpr c21
   subst c21
   have H1 : (if (wrap64 (t64008 - t64007)) > 6 then ((spec_l01Cur_once.f s0_0 t64013 t64014 2).bind fun bt64015 => (spec_l01Cur_edit.j0 k t64007 t64008 bt64015.1 s0_0 bt64015.2.1 bt64015.2.2 t64002 t64007 (wrap64 (t64008 - t64007)))) else (spec_l01Cur_edit.j0 k t64007 t64008 false s0_0 t64013 t64014 t64002 t64007 (wrap64 (t64008 - t64007)))) = some (r1, r2, r3, r4, r5) := by rw [if_neg (show ¬ (false = true) by decide)] at H; exact H
   clear H
   have H := H1
   clear H1
   have HC26 := Aside0.mk H
   clear H
   go_upto_region 6 with (fail)
   go_cut [35] (fun v35 wc => ∃ (kq : Nat) (x35_25 : Bool) (x1001_25 : Int) (x1002_25 : Int), v35 = .bool x35_25 ∧ Aside0 (spec_l01Cur_edit.j0 kq t64007 t64008 x35_25 s0_0 x1001_25 x1002_25 t64002 t64007 (wrap64 (t64008 - t64007)) = some (r1, r2, r3, r4, r5)) ∧ Aside0 (kq ≤ k) ∧ Aside0 (Kd.S k125 125 wc w.heap.size (fun _ => True) (.slice Ao10 t64002.length co10) t64002) ∧ Aside0 (wc.heap[gb64001]? = some (.cells #[.int .i64 0, .int .i64 0, (.slice none 0 0)] 25 (0, 0))) ∧ Aside0 (wc.heap[gb64006]? = some (.cells #[(.slice Ao10 t64002.length co10)] 71 (0, 0))) ∧ Aside0 (wc.heap[gb64011]? = some (.cells #[.int .i64 t64007, .int .i64 (wrap64 (t64008 - t64007)), (.slice none 0 0)] 25 (0, 0))) ∧ Aside0 (IsS141 w0 wc g s0_0 x1001_25 x1002_25) ∧ Aside0 (KeepBut w wc g none) ∧ Aside0 (Below w0.heap.size w0 wc))
   case first =>
    have H := HC26.out
    clear HC26
    by_cases c27 : (wrap64 (t64008 - t64007)) > 6
    ·rw [if_pos c27] at H
     have c27b0 : decide (6 < (wrap64 (t64008 - t64007))) = true := decide_eq_true c27
     clear c27
     (first | rw [c27b0] | (simp only [i64_w, i32_w]; rw [c27b0]) | skip)
     replace H := Option.bind_eq_some_iff.mp H
     obtain ⟨⟨t64015, t64016, t64017⟩, A280, H⟩ := H
     replace H : (spec_l01Cur_edit.j0 k t64007 t64008 t64015 s0_0 t64016 t64017 t64002 t64007 (wrap64 (t64008 - t64007))) = some (r1, r2, r3, r4, r5) := H
     have A28 := Aside0.mk A280
     clear A280
     have H' := Aside0.mk H
     clear H
     have hnb29 := NB64011_64001.out
     have hnc29 := NB64001_64011.out
     have hnb30 := NB64011_64006.out
     have hnc30 := NB64006_64011.out
     have hnb31 := NB64011_0.out
     have hnc31 := NB0_64011.out
     have hcz32_0 : w20.cell? ⟨gb64011, 0, none⟩ = some (.int .i64 t64007) := (blk_cell BK64011.out 0).trans rfl
     have hcz32_1 : w20.cell? ⟨gb64011, 1, none⟩ = some (.int .i64 (wrap64 (t64008 - t64007))) := (blk_cell BK64011.out 1).trans rfl
     have hcz32_2 : w20.cell? ⟨gb64011, 2, none⟩ = some (.slice none 0 0) := (blk_cell BK64011.out 2).trans rfl
     have hfz32_0 := blk_frozen BK64011.out 0
     have hfz32_1 := blk_frozen BK64011.out 1
     have hfz32_2 := blk_frozen BK64011.out 2
     go_wp2_with (first | (go_at_call 70; (with_reducible refine (spec_l01Cur_once.calls g s0_0 t64013 t64014 2 t64015 t64016 t64017 w0 _ ?side1 ?side2 A28.out).mono ?_); (case side1 => exact pIIsS141 HI0); (case side2 => exact hbIsS141); rintro e w33 ⟨rfl, hi, hb, hk⟩; replace BK64001 := Aside0.mk (bkk hk BK64001 NB64001_0.out); replace HO64004 := Aside0.mk (Kd.S_mono (Kd.S_keep (IsS141.apartS (show IsS141 w0 _ g s0_0 t64013 t64014 from pIIsS141 HI0) (hrnS HO64004) (by decide)) hk (fun _ h => h.2)) (fun _ h => h.1)); replace BK64006 := Aside0.mk (bkk hk BK64006 NB64006_0.out); replace BK64011 := Aside0.mk (bkk hk BK64011 NB64011_0.out); replace HK := Aside0.mk (KeepBut.trans (by repeat (first | (with_reducible first | exact HK.out | apply KeepBut.set_ | apply keep_drewN | apply keep_drew | apply keep_alloc | refine keep_far ?_ GW64001.out _ | refine keep_far ?_ GW64006.out _ | refine keep_far ?_ GW64011.out _) | exact HK.out)) hk (.inl rfl)); replace HB := Aside0.mk (hb); replace HI0 := Aside0.mk (hi); (try clear hb); (try clear hb2); (try clear hk); (try clear hi)))
     go_meet
     case rel => exact ⟨_, (t64015), (t64016), (t64017), rfs, H', ⟨by first | omega | exact Nat.le_refl _⟩, ⟨(hrnS HO64004)⟩, ⟨by refine pB ?_; exact BK64001.out⟩, ⟨by refine pB ?_; exact BK64006.out⟩, ⟨by refine pB ?_; exact BK64011.out⟩, ⟨pIIsS141 HI0⟩, ⟨by repeat (first | (with_reducible first | exact HK.out | apply KeepBut.set_ | apply keep_drewN | apply keep_drew | apply keep_alloc | refine keep_far ?_ GW64001.out _ | refine keep_far ?_ GW64006.out _ | refine keep_far ?_ GW64011.out _) | exact HK.out)⟩, ⟨hbIsS141⟩⟩
    ·rw [if_neg c27] at H
     have c27b0 : decide (6 < (wrap64 (t64008 - t64007))) = false := decide_eq_false c27
     clear c27
     (first | rw [c27b0] | (simp only [i64_w, i32_w]; rw [c27b0]) | skip)
     have H' := Aside0.mk H
     clear H
     have hnb34 := NB64011_64001.out
     have hnc34 := NB64001_64011.out
     have hnb35 := NB64011_64006.out
     have hnc35 := NB64006_64011.out
     have hnb36 := NB64011_0.out
     have hnc36 := NB0_64011.out
     have hcz37_0 : w20.cell? ⟨gb64011, 0, none⟩ = some (.int .i64 t64007) := (blk_cell BK64011.out 0).trans rfl
     have hcz37_1 : w20.cell? ⟨gb64011, 1, none⟩ = some (.int .i64 (wrap64 (t64008 - t64007))) := (blk_cell BK64011.out 1).trans rfl
     have hcz37_2 : w20.cell? ⟨gb64011, 2, none⟩ = some (.slice none 0 0) := (blk_cell BK64011.out 2).trans rfl
     have hfz37_0 := blk_frozen BK64011.out 0
     have hfz37_1 := blk_frozen BK64011.out 1
     have hfz37_2 := blk_frozen BK64011.out 2
     go_wp2
     go_meet
     case rel => exact ⟨_, (false), (t64013), (t64014), rfs, H', ⟨by first | omega | exact Nat.le_refl _⟩, ⟨(hrnS HO64004)⟩, ⟨by refine pB ?_; exact BK64001.out⟩, ⟨by refine pB ?_; exact BK64006.out⟩, ⟨by refine pB ?_; exact BK64011.out⟩, ⟨pIIsS141 HI0⟩, ⟨by repeat (first | (with_reducible first | exact HK.out | apply KeepBut.set_ | apply keep_drewN | apply keep_drew | apply keep_alloc | refine keep_far ?_ GW64001.out _ | refine keep_far ?_ GW64006.out _ | refine keep_far ?_ GW64011.out _) | exact HK.out)⟩, ⟨hbIsS141⟩⟩
   case rest =>
    clear HC26
    try clear c1
    try clear c2
    try clear p2
    try clear c3
    try clear c6
    try clear p6
    try clear c7
    try clear c11
    try clear c12
    try clear c16
    try clear c17
    try clear c18
    try clear c21
    try clear c22
    try clear c23
    try clear c24
    try clear c27
    try clear c27b0
    try clear c29
    try clear c30
    try clear c31
    try clear c34
    try clear c35
    try clear c36
    try clear hcz13_0
    try clear hcz19_0
    try clear hcz19_1
    try clear hcz19_2
    try clear hcz25_0
    try clear hcz25_1
    try clear hcz25_2
    try clear hcz32_0
    try clear hcz32_1
    try clear hcz32_2
    try clear hcz37_0
    try clear hcz37_1
    try clear hcz37_2
    try clear hfz13_0
    try clear hfz19_0
    try clear hfz19_1
    try clear hfz19_2
    try clear hfz25_0
    try clear hfz25_1
    try clear hfz25_2
    try clear hfz32_0
    try clear hfz32_1
    try clear hfz32_2
    try clear hfz37_0
    try clear hfz37_1
    try clear hfz37_2
    obtain ⟨kq, x35_25, x1001_25, x1002_25, rfl, HA, HJ25, HO_64007000, BK64001, BK64006, BK64011, HI0, HK, HB⟩ := hcut
    cases kq with
    | zero => exact absurd HA.out (by simp [spec_l01Cur_edit.j0])
    | succ kj25 =>
     have H := HA.out
     clear HA
     simp only [spec_l01Cur_edit.j0] at H
     by_cases c38 : x35_25 = true
     ·subst c38
      have H1 : ((spec_l01Cur_cutOf.f kj25 s0_0 x1001_25 x1002_25 t64002).bind fun bt64018 => (if (wrap64 (bt64018.1 - t64007)) < 0 then (spec_l01Cur_edit.j1 kj25 s0_0 bt64018.2.1 bt64018.2.2 t64007 (wrap64 (t64008 - t64007))) else (spec_l01Cur_edit.j1 kj25 s0_0 bt64018.2.1 bt64018.2.2 t64007 (wrap64 (bt64018.1 - t64007))))) = some (r1, r2, r3, r4, r5) := by rw [if_pos rfl] at H; exact H
      clear H
      have H := H1
      clear H1
      replace H := Option.bind_eq_some_iff.mp H
      obtain ⟨⟨t64018, t64019, t64020⟩, A390, H⟩ := H
      replace H : (if (wrap64 (t64018 - t64007)) < 0 then (spec_l01Cur_edit.j1 kj25 s0_0 t64019 t64020 t64007 (wrap64 (t64008 - t64007))) else (spec_l01Cur_edit.j1 kj25 s0_0 t64019 t64020 t64007 (wrap64 (t64018 - t64007)))) = some (r1, r2, r3, r4, r5) := H
      have A39 := Aside0.mk A390
      clear A390
      by_cases c40 : (wrap64 (t64018 - t64007)) < 0
      ·rw [if_pos c40] at H
       have c40b0 : decide ((wrap64 (t64018 - t64007)) < 0) = true := decide_eq_true c40
       clear c40
       have H' := Aside0.mk H
       clear H
       have hnb41 := NB64006_64001.out
       have hnc41 := NB64001_64006.out
       have hnb42 := NB64006_64011.out
       have hnc42 := NB64011_64006.out
       have hnb43 := NB64006_0.out
       have hnc43 := NB0_64006.out
       have hcz44_0 : wc.cell? ⟨gb64006, 0, none⟩ = some (.slice Ao10 t64002.length co10) := (blk_cell BK64006.out 0).trans rfl
       have hfz44_0 := blk_frozen BK64006.out 0
       go_wp2_with (first | ((with_reducible refine gate_callee (f := 107) rfl ?_); refine goesM (some 38) Tryd.func107 #[.pointer (some ⟨g, 0, none⟩), .agg #[.slice Ao10 t64002.length co10]] ?_; (with_reducible refine (spec_l01Cur_cutOf.calls kj25 g s0_0 x1001_25 x1002_25 _ _ t64002 t64018 t64019 t64020 w0 _ ?side1 ?side2 ?side3 ?side4 A39.out).mono ?_); (case side1 => exact pIIsS141 HI0); (case side2 => exact hbIsS141); (case side3 => exact Kd.C_foot_own ((Kd.S_R (IsS141.apartS (show IsS141 w0 _ g s0_0 x1001_25 x1002_25 from pIIsS141 HI0) (hrnS HO_64007000) (by decide)))) (fun _ h_ => h_.2)); (case side4 => exact (Kd.S_reads' HO_64007000.out).2.1); rintro e w45 ⟨rfl, hi, hb, hk⟩; refine ⟨_, rfl, ?_⟩; replace HO_64007000 := Aside0.mk (Kd.S_mono (Kd.S_keep (IsS141.apartS (show IsS141 w0 _ g s0_0 x1001_25 x1002_25 from pIIsS141 HI0) (hrnS HO_64007000) (by decide)) hk (fun _ h => h.2)) (fun _ h => h.1)); replace BK64001 := Aside0.mk (bkk hk BK64001 NB64001_0.out); replace BK64006 := Aside0.mk (bkk hk BK64006 NB64006_0.out); replace BK64011 := Aside0.mk (bkk hk BK64011 NB64011_0.out); replace HK := Aside0.mk (KeepBut.trans (by repeat (first | (with_reducible first | exact HK.out | apply KeepBut.set_ | apply keep_drewN | apply keep_drew | apply keep_alloc | refine keep_far ?_ GW64001.out _ | refine keep_far ?_ GW64006.out _ | refine keep_far ?_ GW64011.out _) | exact HK.out)) hk (.inl rfl)); replace HB := Aside0.mk (hb); replace HI0 := Aside0.mk (hi); (try clear hb); (try clear hb2); (try clear hk); (try clear hi); have hnb46 := NB64011_64001.out; have hnc46 := NB64001_64011.out; have hnb47 := NB64011_0.out; have hnc47 := NB0_64011.out; have hcz48_0 : w45.cell? ⟨gb64011, 0, none⟩ = some (.int .i64 t64007) := (blk_cell BK64011.out 0).trans rfl; have hcz48_1 : w45.cell? ⟨gb64011, 1, none⟩ = some (.int .i64 (wrap64 (t64008 - t64007))) := (blk_cell BK64011.out 1).trans rfl; have hcz48_2 : w45.cell? ⟨gb64011, 2, none⟩ = some (.slice none 0 0) := (blk_cell BK64011.out 2).trans rfl; have hfz48_0 := blk_frozen BK64011.out 0; have hfz48_1 := blk_frozen BK64011.out 1; have hfz48_2 := blk_frozen BK64011.out 2))
       go_meet
       case rel => exact ⟨_, (t64019), (t64020), (wrap64 (t64008 - t64007)), H', ⟨by have := HJ25.out; first | omega | exact Nat.le_refl _⟩, ⟨by (with_reducible repeat (first | apply Kd.S_alloc | apply Kd.S_drewN | apply Kd.S_drew)); exact Kd.S_mono (Kd.S_far (p := ⟨gb64011, 1, none⟩) (Kd.S_far (p := ⟨gb64011, 1, none⟩) (Kd.S_types HO_64007000.out BK64011.out (by decide)) (fun _ hk => hk.2) (.int .i64 (wrap64 (t64018 - t64007)))) (fun _ hk => hk.2) (.int .i64 (wrap64 (t64008 - t64007)))) (fun _ hk => trivial)⟩, ⟨by refine pB ?_; refine blk_far ?_ NB64001_64011.out _; refine pB ?_; refine blk_far ?_ NB64001_64011.out _; refine pB ?_; exact BK64001.out⟩, ⟨by refine pB ?_; refine blk_far ?_ NB64006_64011.out _; refine pB ?_; refine blk_far ?_ NB64006_64011.out _; refine pB ?_; exact BK64006.out⟩, ⟨by refine pB ?_; refine blk_put (cs := #[.int .i64 t64007, .int .i64 (wrap64 (t64018 - t64007)), .slice none 0 0]) ?_ 1 _ rfl; refine pB ?_; refine blk_put (cs := #[.int .i64 t64007, .int .i64 (wrap64 (t64008 - t64007)), .slice none 0 0]) ?_ 1 _ rfl; refine pB ?_; exact BK64011.out⟩, ⟨pIIsS141 HI0⟩, ⟨by repeat (first | (with_reducible first | exact HK.out | apply KeepBut.set_ | apply keep_drewN | apply keep_drew | apply keep_alloc | refine keep_far ?_ GW64001.out _ | refine keep_far ?_ GW64006.out _ | refine keep_far ?_ GW64011.out _) | exact HK.out)⟩, ⟨hbIsS141⟩⟩
      ·rw [if_neg c40] at H
       have c40b0 : decide ((wrap64 (t64018 - t64007)) < 0) = false := decide_eq_false c40
       clear c40
       have H' := Aside0.mk H
       clear H
       have hnb49 := NB64006_64001.out
       have hnc49 := NB64001_64006.out
       have hnb50 := NB64006_64011.out
       have hnc50 := NB64011_64006.out
       have hnb51 := NB64006_0.out
       have hnc51 := NB0_64006.out
       have hcz52_0 : wc.cell? ⟨gb64006, 0, none⟩ = some (.slice Ao10 t64002.length co10) := (blk_cell BK64006.out 0).trans rfl
       have hfz52_0 := blk_frozen BK64006.out 0
       go_wp2_with (first | ((with_reducible refine gate_callee (f := 107) rfl ?_); refine goesM (some 38) Tryd.func107 #[.pointer (some ⟨g, 0, none⟩), .agg #[.slice Ao10 t64002.length co10]] ?_; (with_reducible refine (spec_l01Cur_cutOf.calls kj25 g s0_0 x1001_25 x1002_25 _ _ t64002 t64018 t64019 t64020 w0 _ ?side1 ?side2 ?side3 ?side4 A39.out).mono ?_); (case side1 => exact pIIsS141 HI0); (case side2 => exact hbIsS141); (case side3 => exact Kd.C_foot_own ((Kd.S_R (IsS141.apartS (show IsS141 w0 _ g s0_0 x1001_25 x1002_25 from pIIsS141 HI0) (hrnS HO_64007000) (by decide)))) (fun _ h_ => h_.2)); (case side4 => exact (Kd.S_reads' HO_64007000.out).2.1); rintro e w53 ⟨rfl, hi, hb, hk⟩; refine ⟨_, rfl, ?_⟩; replace HO_64007000 := Aside0.mk (Kd.S_mono (Kd.S_keep (IsS141.apartS (show IsS141 w0 _ g s0_0 x1001_25 x1002_25 from pIIsS141 HI0) (hrnS HO_64007000) (by decide)) hk (fun _ h => h.2)) (fun _ h => h.1)); replace BK64001 := Aside0.mk (bkk hk BK64001 NB64001_0.out); replace BK64006 := Aside0.mk (bkk hk BK64006 NB64006_0.out); replace BK64011 := Aside0.mk (bkk hk BK64011 NB64011_0.out); replace HK := Aside0.mk (KeepBut.trans (by repeat (first | (with_reducible first | exact HK.out | apply KeepBut.set_ | apply keep_drewN | apply keep_drew | apply keep_alloc | refine keep_far ?_ GW64001.out _ | refine keep_far ?_ GW64006.out _ | refine keep_far ?_ GW64011.out _) | exact HK.out)) hk (.inl rfl)); replace HB := Aside0.mk (hb); replace HI0 := Aside0.mk (hi); (try clear hb); (try clear hb2); (try clear hk); (try clear hi); have hnb54 := NB64011_64001.out; have hnc54 := NB64001_64011.out; have hnb55 := NB64011_0.out; have hnc55 := NB0_64011.out; have hcz56_0 : w53.cell? ⟨gb64011, 0, none⟩ = some (.int .i64 t64007) := (blk_cell BK64011.out 0).trans rfl; have hcz56_1 : w53.cell? ⟨gb64011, 1, none⟩ = some (.int .i64 (wrap64 (t64008 - t64007))) := (blk_cell BK64011.out 1).trans rfl; have hcz56_2 : w53.cell? ⟨gb64011, 2, none⟩ = some (.slice none 0 0) := (blk_cell BK64011.out 2).trans rfl; have hfz56_0 := blk_frozen BK64011.out 0; have hfz56_1 := blk_frozen BK64011.out 1; have hfz56_2 := blk_frozen BK64011.out 2))
       go_meet
       case rel => exact ⟨_, (t64019), (t64020), (wrap64 (t64018 - t64007)), H', ⟨by have := HJ25.out; first | omega | exact Nat.le_refl _⟩, ⟨by (with_reducible repeat (first | apply Kd.S_alloc | apply Kd.S_drewN | apply Kd.S_drew)); exact Kd.S_mono (Kd.S_far (p := ⟨gb64011, 1, none⟩) (Kd.S_types HO_64007000.out BK64011.out (by decide)) (fun _ hk => hk.2) (.int .i64 (wrap64 (t64018 - t64007)))) (fun _ hk => trivial)⟩, ⟨by refine pB ?_; refine blk_far ?_ NB64001_64011.out _; refine pB ?_; exact BK64001.out⟩, ⟨by refine pB ?_; refine blk_far ?_ NB64006_64011.out _; refine pB ?_; exact BK64006.out⟩, ⟨by refine pB ?_; refine blk_put (cs := #[.int .i64 t64007, .int .i64 (wrap64 (t64008 - t64007)), .slice none 0 0]) ?_ 1 _ rfl; refine pB ?_; exact BK64011.out⟩, ⟨pIIsS141 HI0⟩, ⟨by repeat (first | (with_reducible first | exact HK.out | apply KeepBut.set_ | apply keep_drewN | apply keep_drew | apply keep_alloc | refine keep_far ?_ GW64001.out _ | refine keep_far ?_ GW64006.out _ | refine keep_far ?_ GW64011.out _) | exact HK.out)⟩, ⟨hbIsS141⟩⟩
     ·replace c38 := Bool.eq_false_iff.mpr c38
      subst c38
      have H1 : (spec_l01Cur_edit.j1 kj25 s0_0 x1001_25 x1002_25 t64007 (wrap64 (t64008 - t64007))) = some (r1, r2, r3, r4, r5) := by rw [if_neg (show ¬ (false = true) by decide)] at H; exact H
      clear H
      have H := H1
      clear H1
      have H' := Aside0.mk H
      clear H
      go_wp2
      go_meet
      case rel => exact ⟨_, (x1001_25), (x1002_25), ((wrap64 (t64008 - t64007))), H', ⟨by have := HJ25.out; first | omega | exact Nat.le_refl _⟩, ⟨(hrnS HO_64007000)⟩, ⟨by refine pB ?_; exact BK64001.out⟩, ⟨by refine pB ?_; exact BK64006.out⟩, ⟨by refine pB ?_; exact BK64011.out⟩, ⟨pIIsS141 HI0⟩, ⟨by repeat (first | (with_reducible first | exact HK.out | apply KeepBut.set_ | apply keep_drewN | apply keep_drew | apply keep_alloc | refine keep_far ?_ GW64001.out _ | refine keep_far ?_ GW64006.out _ | refine keep_far ?_ GW64011.out _) | exact HK.out)⟩, ⟨hbIsS141⟩⟩
 case rest =>
  clear HC6
  try clear c1
  try clear c2
  try clear p2
  try clear c3
  try clear c4
  try clear c5
  try clear c6
  try clear p6
  try clear c7
  try clear c10
  try clear c11
  try clear c12
  try clear c16
  try clear c17
  try clear c18
  try clear c21
  try clear c22
  try clear c23
  try clear c24
  try clear c27
  try clear c27b0
  try clear c29
  try clear c30
  try clear c31
  try clear c34
  try clear c35
  try clear c36
  try clear c38
  try clear c40
  try clear c40b0
  try clear c41
  try clear c42
  try clear c43
  try clear c46
  try clear c47
  try clear c49
  try clear c50
  try clear c51
  try clear c54
  try clear c55
  try clear hcz13_0
  try clear hcz19_0
  try clear hcz19_1
  try clear hcz19_2
  try clear hcz25_0
  try clear hcz25_1
  try clear hcz25_2
  try clear hcz32_0
  try clear hcz32_1
  try clear hcz32_2
  try clear hcz37_0
  try clear hcz37_1
  try clear hcz37_2
  try clear hcz44_0
  try clear hcz48_0
  try clear hcz48_1
  try clear hcz48_2
  try clear hcz52_0
  try clear hcz56_0
  try clear hcz56_1
  try clear hcz56_2
  try clear hfz13_0
  try clear hfz19_0
  try clear hfz19_1
  try clear hfz19_2
  try clear hfz25_0
  try clear hfz25_1
  try clear hfz25_2
  try clear hfz32_0
  try clear hfz32_1
  try clear hfz32_2
  try clear hfz37_0
  try clear hfz37_1
  try clear hfz37_2
  try clear hfz44_0
  try clear hfz48_0
  try clear hfz48_1
  try clear hfz48_2
  try clear hfz52_0
  try clear hfz56_0
  try clear hfz56_1
  try clear hfz56_2
  try clear p2
  try clear p6
  obtain ⟨kq, x1001_5, x1002_5, x64012001_5, HA, HJ5, HO_64007000, BK64001, BK64006, BK64011, HI0, HK, HB⟩ := hcut
  cases kq with
  | zero => exact absurd HA.out (by simp [spec_l01Cur_edit.j1])
  | succ kj5 =>
   have H := HA.out
   clear HA
   simp only [spec_l01Cur_edit.j1] at H
   replace H := Option.bind_eq_some_iff.mp H
   obtain ⟨⟨t64021, t64022, t64023⟩, A570, H⟩ := H
   replace H : (if t64021 = true then (some (t64007, x64012001_5, ([] : List Int), t64022, t64023)) else ((spec_l01Cur_text.f kj5 s0_0 t64022 t64023 6).bind fun bt64024 => (some (t64007, x64012001_5, bt64024.1, bt64024.2.1, bt64024.2.2)))) = some (r1, r2, r3, r4, r5) := H
   have A57 := Aside0.mk A570
   clear A570
   by_cases c58 : t64021 = true
   ·subst c58
    have H1 : (some (t64007, x64012001_5, ([] : List Int), t64022, t64023)) = some (r1, r2, r3, r4, r5) := by rw [if_pos rfl] at H; exact H
    clear H
    have H := H1
    clear H1
    simp only [Option.some.injEq, Prod.mk.injEq] at H
    obtain ⟨rfl, rfl, rfl, rfl, rfl⟩ := H
    go_wp2_with (first | ((with_reducible refine gate_callee (f := 70) rfl ?_); refine goesM (some 50) Tryd.func70 #[.pointer (some ⟨g, 0, none⟩), .int .i64 3] ?_; (with_reducible refine (spec_l01Cur_once.calls g s0_0 x1001_5 x1002_5 3 true t64022 t64023 w0 _ ?side1 ?side2 A57.out).mono ?_); (case side1 => exact pIIsS141 HI0); (case side2 => exact hbIsS141); rintro e w59 ⟨rfl, hi, hb, hk⟩; refine ⟨_, rfl, ?_⟩; replace HO_64007000 := Aside0.mk (Kd.S_mono (Kd.S_keep (IsS141.apartS (show IsS141 w0 _ g s0_0 x1001_5 x1002_5 from pIIsS141 HI0) (hrnS HO_64007000) (by decide)) hk (fun _ h => h.2)) (fun _ h => h.1)); replace BK64001 := Aside0.mk (bkk hk BK64001 NB64001_0.out); replace BK64006 := Aside0.mk (bkk hk BK64006 NB64006_0.out); replace BK64011 := Aside0.mk (bkk hk BK64011 NB64011_0.out); replace HK := Aside0.mk (KeepBut.trans (by repeat (first | (with_reducible first | exact HK.out | apply KeepBut.set_ | apply keep_drewN | apply keep_drew | apply keep_alloc | refine keep_far ?_ GW64001.out _ | refine keep_far ?_ GW64006.out _ | refine keep_far ?_ GW64011.out _) | exact HK.out)) hk (.inl rfl)); replace HB := Aside0.mk (hb); replace HI0 := Aside0.mk (hi); (try clear hb); (try clear hb2); (try clear hk); (try clear hi); have hnb60 := NB64011_64001.out; have hnc60 := NB64001_64011.out; have hnb61 := NB64011_64006.out; have hnc61 := NB64006_64011.out; have hnb62 := NB64011_0.out; have hnc62 := NB0_64011.out; have hcz63_0 : w59.cell? ⟨gb64011, 0, none⟩ = some (.int .i64 t64007) := (blk_cell BK64011.out 0).trans rfl; have hcz63_1 : w59.cell? ⟨gb64011, 1, none⟩ = some (.int .i64 x64012001_5) := (blk_cell BK64011.out 1).trans rfl; have hcz63_2 : w59.cell? ⟨gb64011, 2, none⟩ = some (.slice none 0 0) := (blk_cell BK64011.out 2).trans rfl; have hfz63_0 := blk_frozen BK64011.out 0; have hfz63_1 := blk_frozen BK64011.out 1; have hfz63_2 := blk_frozen BK64011.out 2; have hnb64 := NB64001_64006.out; have hnc64 := NB64006_64001.out; have hnb65 := NB64001_0.out; have hnc65 := NB0_64001.out; have hcz66_0 : w59.cell? ⟨gb64001, 0, none⟩ = some (.int .i64 0) := (blk_cell BK64001.out 0).trans rfl; have hcz66_1 : w59.cell? ⟨gb64001, 1, none⟩ = some (.int .i64 0) := (blk_cell BK64001.out 1).trans rfl; have hcz66_2 : w59.cell? ⟨gb64001, 2, none⟩ = some (.slice none 0 0) := (blk_cell BK64001.out 2).trans rfl; have hfz66_0 := blk_frozen BK64001.out 0; have hfz66_1 := blk_frozen BK64001.out 1; have hfz66_2 := blk_frozen BK64001.out 2))
    refine bodyPost_ret (results_cell_row rfl _ _ gb64001 25 #[.int .i64 t64007, .int .i64 x64012001_5, .slice none 0 0] (0, 0) _ rfl (by refine pB ?_; refine blk_put (cs := #[.int .i64 t64007, .int .i64 x64012001_5, .slice none 0 0]) ?_ 2 _ rfl; refine pB ?_; refine blk_put (cs := #[.int .i64 t64007, .int .i64 0, .slice none 0 0]) ?_ 1 _ rfl; refine pB ?_; refine blk_put (cs := #[.int .i64 0, .int .i64 0, .slice none 0 0]) ?_ 0 _ rfl; refine pB ?_; exact BK64001.out) Tryd.underlying25 rfl (by kernel_rfl)) rfl ?_
    exact ⟨_, erf, by first | exact Kd.R_nil _ _ _ _ _ | exact Kd.N_nil _ _ _ _ _ | exact Kd.V_nil _ _ _ _ _ | exact Kd.Q_nil _ _ _ _ _ | exact Kd.S_nil _ _ _ _ _, pIIsS141 HI0, hbIsS141, by repeat (first | (with_reducible first | exact HK.out | apply KeepBut.set_ | apply keep_drewN | apply keep_drew | apply keep_alloc | refine keep_far ?_ GW64001.out _ | refine keep_far ?_ GW64006.out _ | refine keep_far ?_ GW64011.out _) | exact HK.out)⟩
   ·replace c58 := Bool.eq_false_iff.mpr c58
    subst c58
    have H1 : ((spec_l01Cur_text.f kj5 s0_0 t64022 t64023 6).bind fun bt64024 => (some (t64007, x64012001_5, bt64024.1, bt64024.2.1, bt64024.2.2))) = some (r1, r2, r3, r4, r5) := by rw [if_neg (show ¬ (false = true) by decide)] at H; exact H
    clear H
    have H := H1
    clear H1
    replace H := Option.bind_eq_some_iff.mp H
    obtain ⟨⟨t64024, t64027, t64028⟩, A670, H⟩ := H
    replace H : (some (t64007, x64012001_5, t64024, t64027, t64028)) = some (r1, r2, r3, r4, r5) := H
    have A67 := Aside0.mk A670
    clear A670
    simp only [Option.some.injEq, Prod.mk.injEq] at H
    obtain ⟨rfl, rfl, rfl, rfl, rfl⟩ := H
    go_wp2_with (first | ((with_reducible refine gate_callee (f := 70) rfl ?_); refine goesM (some 50) Tryd.func70 #[.pointer (some ⟨g, 0, none⟩), .int .i64 3] ?_; (with_reducible refine (spec_l01Cur_once.calls g s0_0 x1001_5 x1002_5 3 false t64022 t64023 w0 _ ?side1 ?side2 A57.out).mono ?_); (case side1 => exact pIIsS141 HI0); (case side2 => exact hbIsS141); rintro e w68 ⟨rfl, hi, hb, hk⟩; refine ⟨_, rfl, ?_⟩; replace HO_64007000 := Aside0.mk (Kd.S_mono (Kd.S_keep (IsS141.apartS (show IsS141 w0 _ g s0_0 x1001_5 x1002_5 from pIIsS141 HI0) (hrnS HO_64007000) (by decide)) hk (fun _ h => h.2)) (fun _ h => h.1)); replace BK64001 := Aside0.mk (bkk hk BK64001 NB64001_0.out); replace BK64006 := Aside0.mk (bkk hk BK64006 NB64006_0.out); replace BK64011 := Aside0.mk (bkk hk BK64011 NB64011_0.out); replace HK := Aside0.mk (KeepBut.trans (by repeat (first | (with_reducible first | exact HK.out | apply KeepBut.set_ | apply keep_drewN | apply keep_drew | apply keep_alloc | refine keep_far ?_ GW64001.out _ | refine keep_far ?_ GW64006.out _ | refine keep_far ?_ GW64011.out _) | exact HK.out)) hk (.inl rfl)); replace HB := Aside0.mk (hb); replace HI0 := Aside0.mk (hi); (try clear hb); (try clear hb2); (try clear hk); (try clear hi)) | ((with_reducible refine gate_callee (f := 62) rfl ?_); refine goesM (some 53) Tryd.func62 #[.pointer (some ⟨g, 0, none⟩), .int .i64 6] ?_; (with_reducible refine (spec_l01Cur_text.calls kj5 g s0_0 t64022 t64023 6 t64024 t64027 t64028 w0 _ ?side1 ?side2 A67.out).mono ?_); (case side1 => exact pIIsS141 HI0); (case side2 => exact hbIsS141); rintro e w69 ⟨v64025, rfl, ho0, hi, hb, hk⟩; refine ⟨_, rfl, ?_⟩; have HO64026 := Aside0.mk (Kd.R_lower ho0 (keep_size (w := w) (g := g) (row := none) (by repeat (first | (with_reducible first | exact HK.out | apply KeepBut.set_ | apply keep_drewN | apply keep_drew | apply keep_alloc | refine keep_far ?_ GW64001.out _ | refine keep_far ?_ GW64006.out _ | refine keep_far ?_ GW64011.out _) | exact HK.out)))); replace HO_64007000 := Aside0.mk (Kd.S_mono (Kd.S_told (Kd.S_oldK (IsS141.apartS (show IsS141 w0 _ g s0_0 t64022 t64023 from pIIsS141 HI0) (hrnS HO_64007000) (by decide)) hk) (Kd.R_base ho0)) (fun _ h_ => h_.1)); replace BK64001 := Aside0.mk (bkk hk BK64001 NB64001_0.out); replace BK64006 := Aside0.mk (bkk hk BK64006 NB64006_0.out); replace BK64011 := Aside0.mk (bkk hk BK64011 NB64011_0.out); replace HK := Aside0.mk (KeepBut.trans (by repeat (first | (with_reducible first | exact HK.out | apply KeepBut.set_ | apply keep_drewN | apply keep_drew | apply keep_alloc | refine keep_far ?_ GW64001.out _ | refine keep_far ?_ GW64006.out _ | refine keep_far ?_ GW64011.out _) | exact HK.out)) hk (.inl rfl)); replace HB := Aside0.mk (hb); replace HI0 := Aside0.mk (hi); (try clear hb); (try clear hb2); (try clear hk); (try clear hi); (try clear ho0); obtain ⟨Ao70, co70, eo70⟩ := Kd.R_slice HO64026.out; subst eo70; have hnb71 := NB64011_64001.out; have hnc71 := NB64001_64011.out; have hnb72 := NB64011_64006.out; have hnc72 := NB64006_64011.out; have hnb73 := NB64011_0.out; have hnc73 := NB0_64011.out; have hcz74_0 : w69.cell? ⟨gb64011, 0, none⟩ = some (.int .i64 t64007) := (blk_cell BK64011.out 0).trans rfl; have hcz74_1 : w69.cell? ⟨gb64011, 1, none⟩ = some (.int .i64 x64012001_5) := (blk_cell BK64011.out 1).trans rfl; have hcz74_2 : w69.cell? ⟨gb64011, 2, none⟩ = some (.slice none 0 0) := (blk_cell BK64011.out 2).trans rfl; have hfz74_0 := blk_frozen BK64011.out 0; have hfz74_1 := blk_frozen BK64011.out 1; have hfz74_2 := blk_frozen BK64011.out 2; have hnb75 := NB64001_64006.out; have hnc75 := NB64006_64001.out; have hnb76 := NB64001_0.out; have hnc76 := NB0_64001.out; have hcz77_0 : w69.cell? ⟨gb64001, 0, none⟩ = some (.int .i64 0) := (blk_cell BK64001.out 0).trans rfl; have hcz77_1 : w69.cell? ⟨gb64001, 1, none⟩ = some (.int .i64 0) := (blk_cell BK64001.out 1).trans rfl; have hcz77_2 : w69.cell? ⟨gb64001, 2, none⟩ = some (.slice none 0 0) := (blk_cell BK64001.out 2).trans rfl; have hfz77_0 := blk_frozen BK64001.out 0; have hfz77_1 := blk_frozen BK64001.out 1; have hfz77_2 := blk_frozen BK64001.out 2))
    refine bodyPost_ret (results_cell_row rfl _ _ gb64001 25 #[.int .i64 t64007, .int .i64 x64012001_5, .slice Ao70 t64024.length co70] (0, 0) _ rfl (by refine pB ?_; refine blk_put (cs := #[.int .i64 t64007, .int .i64 x64012001_5, .slice none 0 0]) ?_ 2 _ rfl; refine pB ?_; refine blk_put (cs := #[.int .i64 t64007, .int .i64 0, .slice none 0 0]) ?_ 1 _ rfl; refine pB ?_; refine blk_put (cs := #[.int .i64 0, .int .i64 0, .slice none 0 0]) ?_ 0 _ rfl; refine pB ?_; refine blk_far ?_ NB64001_64011.out _; refine pB ?_; exact BK64001.out) Tryd.underlying25 rfl (by kernel_rfl)) rfl ?_
    exact ⟨_, erf, by (with_reducible repeat (first | apply Kd.R_alloc | apply Kd.R_drewN | apply Kd.R_drew)); exact Kd.R_mono (Kd.R_far (p := ⟨gb64001, 2, none⟩) (Kd.R_far (p := ⟨gb64001, 1, none⟩) (Kd.R_far (p := ⟨gb64001, 0, none⟩) (Kd.R_far (p := ⟨gb64011, 2, none⟩) (Kd.R_types (Kd.R_types HO64026.out BK64011.out (by decide)) BK64001.out (by decide)) (fun _ hk => hk.1.2) (.slice Ao70 t64024.length co70)) (fun _ hk => hk.2) (.int .i64 t64007)) (fun _ hk => hk.2) (.int .i64 x64012001_5)) (fun _ hk => hk.2) (.slice Ao70 t64024.length co70)) (fun _ hk => trivial), pIIsS141 HI0, hbIsS141, by repeat (first | (with_reducible first | exact HK.out | apply KeepBut.set_ | apply keep_drewN | apply keep_drew | apply keep_alloc | refine keep_far ?_ GW64001.out _ | refine keep_far ?_ GW64006.out _ | refine keep_far ?_ GW64011.out _) | exact HK.out)⟩
def spec_DrawEditJoin.f (k : Nat) (l0 : List Int) : Option (Int × Int × List Int × Int × Int × List Int) := (spec_l01Open.f l0).bind fun bt14003 => ((spec_l01Cur_text.f k bt14003.1 bt14003.2.1 bt14003.2.2 40).bind fun bt14007 => ((spec_l01Cur_edit.f k bt14003.1 bt14007.2.1 bt14007.2.2 bt14007.1).bind fun bt14012 => ((spec_l01Cur_edit.f k bt14003.1 bt14012.2.2.2.1 bt14012.2.2.2.2 bt14012.2.2.1).bind fun bt14020 => ((spec_l01Cur_pick.f bt14003.1 bt14020.2.2.2.1 bt14020.2.2.2.2 9).bind fun bt14028 => (if bt14028.1 = 0 then ((spec_l01Cur_edit.f k bt14003.1 bt14028.2.1 bt14028.2.2 bt14007.1).bind fun bt14031 => (some (bt14012.1, bt14012.2.1, bt14012.2.2.1, bt14031.1, bt14031.2.1, bt14031.2.2.1))) else (if bt14028.1 = 1 then ((spec_l01Cur_raw.f bt14003.1 bt14028.2.1 bt14028.2.2).bind fun bt14038 => (some (bt14012.1, bt14038.1, bt14012.2.2.1, wrap64 (bt14020.1 + bt14012.1), bt14020.2.1, bt14020.2.2.1))) else (if bt14028.1 = 2 then ((spec_l01Cur_pick.f bt14003.1 bt14028.2.1 bt14028.2.2 9).bind fun bt14041 => ((spec_l01Cur_pick.f bt14003.1 bt14041.2.1 bt14041.2.2 9).bind fun bt14044 => (if 0 ≤ (wrap64 ((wrap64 (400 - bt14041.1)) + bt14044.1)) then (if (wrap64 ((wrap64 (400 - bt14041.1)) + bt14044.1) : Int).toNat ≤ 281474976710656 then (some (bt14012.1, bt14012.2.1, bt14012.2.2.1, wrap64 (bt14020.1 + bt14012.1), bt14020.2.1, (List.replicate (wrap64 ((wrap64 (400 - bt14041.1)) + bt14044.1) : Int).toNat 0))) else (none)) else (none)))) else (some (bt14012.1, bt14012.2.1, bt14012.2.2.1, wrap64 (bt14020.1 + bt14012.1), bt14020.2.1, bt14020.2.2.1)))))))))
theorem spec_DrawEditJoin.mono : ∀ a0 k, LeO (spec_DrawEditJoin.f k a0) (spec_DrawEditJoin.f (k + 1) a0) := by
 intro a0 k
 unfold spec_DrawEditJoin.f
 repeat' first
   | (with_reducible exact spec_l01Cur_edit.mono _ _ _ _ _)
   | (with_reducible exact spec_l01Cur_text.mono _ _ _ _ _)
   | (with_reducible exact LeO.refl _)
   | (with_reducible exact LeO.none _)
   | (with_reducible refine LeO.ite ?_ ?_)
   | (with_reducible refine LeO.bind ?_ (fun _ => ?_))
   | exact spec_l01Cur_edit.mono _ _ _ _ _
   | exact spec_l01Cur_text.mono _ _ _ _ _
   | exact LeO.none _
   | refine LeO.ite ?_ ?_
   | refine LeO.bind ?_ (fun _ => ?_)
set_option maxHeartbeats 8000000 in
set_option maxRecDepth 100000 in
theorem spec_DrawEditJoin.calls (k : Nat) (A0 : Option Addr) (c0 : Nat) (l0 : List Int) (r1 : Int) (r2 : Int) (r3 : List Int) (r4 : Int) (r5 : Int) (r6 : List Int) (w : World) (hr0 : Kd.C (Kd.int .u8) w A0 l0.length l0) (hc0 : l0.length ≤ c0) (h : spec_DrawEditJoin.f k l0 = some (r1, r2, r3, r4, r5, r6)) :
  Calls Tryd.prog 13 #[.slice A0 l0.length c0] w fun e w' => ∃ v2_ v5_ : Value, e = .returned (.tuple #[.agg #[.int .i64 r1, .int .i64 r2, v2_], .agg #[.int .i64 r4, .int .i64 r5, v5_]]) ∧ Kd.R (Kd.int .u8) 5 w' w.heap.size (fun k_ => some k_ ≠ (v5_ : Value).ownBlock) v2_ r3 ∧ Kd.R (Kd.int .u8) 5 w' w.heap.size (fun k_ => some k_ ≠ (v2_ : Value).ownBlock) v5_ r6 ∧ Below w.heap.size w w' := by
 have hu25 := Tryd.underlying25
 have HR0 := Aside0.mk hr0
 have HC0 := Aside0.mk hc0
 clear hr0 hc0
 have HB := Aside0.mk (Below.refl w.heap.size w)
 have H : ((spec_l01Open.f l0).bind fun bt14003 => ((spec_l01Cur_text.f k bt14003.1 bt14003.2.1 bt14003.2.2 40).bind fun bt14007 => ((spec_l01Cur_edit.f k bt14003.1 bt14007.2.1 bt14007.2.2 bt14007.1).bind fun bt14012 => ((spec_l01Cur_edit.f k bt14003.1 bt14012.2.2.2.1 bt14012.2.2.2.2 bt14012.2.2.1).bind fun bt14020 => ((spec_l01Cur_pick.f bt14003.1 bt14020.2.2.2.1 bt14020.2.2.2.2 9).bind fun bt14028 => (if bt14028.1 = 0 then ((spec_l01Cur_edit.f k bt14003.1 bt14028.2.1 bt14028.2.2 bt14007.1).bind fun bt14031 => (some (bt14012.1, bt14012.2.1, bt14012.2.2.1, bt14031.1, bt14031.2.1, bt14031.2.2.1))) else (if bt14028.1 = 1 then ((spec_l01Cur_raw.f bt14003.1 bt14028.2.1 bt14028.2.2).bind fun bt14038 => (some (bt14012.1, bt14038.1, bt14012.2.2.1, wrap64 (bt14020.1 + bt14012.1), bt14020.2.1, bt14020.2.2.1))) else (if bt14028.1 = 2 then ((spec_l01Cur_pick.f bt14003.1 bt14028.2.1 bt14028.2.2 9).bind fun bt14041 => ((spec_l01Cur_pick.f bt14003.1 bt14041.2.1 bt14041.2.2 9).bind fun bt14044 => (if 0 ≤ (wrap64 ((wrap64 (400 - bt14041.1)) + bt14044.1)) then (if (wrap64 ((wrap64 (400 - bt14041.1)) + bt14044.1) : Int).toNat ≤ 281474976710656 then (some (bt14012.1, bt14012.2.1, bt14012.2.2.1, wrap64 (bt14020.1 + bt14012.1), bt14020.2.1, (List.replicate (wrap64 ((wrap64 (400 - bt14041.1)) + bt14044.1) : Int).toNat 0))) else (none)) else (none)))) else (some (bt14012.1, bt14012.2.1, bt14012.2.2.1, wrap64 (bt14020.1 + bt14012.1), bt14020.2.1, bt14020.2.2.1)))))))))) = some (r1, r2, r3, r4, r5, r6) := h
 clear h
 replace H := Option.bind_eq_some_iff.mp H
 obtain ⟨⟨t14003, t14004, t14005⟩, A20, H⟩ := H
 replace H : ((spec_l01Cur_text.f k t14003 t14004 t14005 40).bind fun bt14007 => ((spec_l01Cur_edit.f k t14003 bt14007.2.1 bt14007.2.2 bt14007.1).bind fun bt14012 => ((spec_l01Cur_edit.f k t14003 bt14012.2.2.2.1 bt14012.2.2.2.2 bt14012.2.2.1).bind fun bt14020 => ((spec_l01Cur_pick.f t14003 bt14020.2.2.2.1 bt14020.2.2.2.2 9).bind fun bt14028 => (if bt14028.1 = 0 then ((spec_l01Cur_edit.f k t14003 bt14028.2.1 bt14028.2.2 bt14007.1).bind fun bt14031 => (some (bt14012.1, bt14012.2.1, bt14012.2.2.1, bt14031.1, bt14031.2.1, bt14031.2.2.1))) else (if bt14028.1 = 1 then ((spec_l01Cur_raw.f t14003 bt14028.2.1 bt14028.2.2).bind fun bt14038 => (some (bt14012.1, bt14038.1, bt14012.2.2.1, wrap64 (bt14020.1 + bt14012.1), bt14020.2.1, bt14020.2.2.1))) else (if bt14028.1 = 2 then ((spec_l01Cur_pick.f t14003 bt14028.2.1 bt14028.2.2 9).bind fun bt14041 => ((spec_l01Cur_pick.f t14003 bt14041.2.1 bt14041.2.2 9).bind fun bt14044 => (if 0 ≤ (wrap64 ((wrap64 (400 - bt14041.1)) + bt14044.1)) then (if (wrap64 ((wrap64 (400 - bt14041.1)) + bt14044.1) : Int).toNat ≤ 281474976710656 then (some (bt14012.1, bt14012.2.1, bt14012.2.2.1, wrap64 (bt14020.1 + bt14012.1), bt14020.2.1, (List.replicate (wrap64 ((wrap64 (400 - bt14041.1)) + bt14044.1) : Int).toNat 0))) else (none)) else (none)))) else (some (bt14012.1, bt14012.2.1, bt14012.2.2.1, wrap64 (bt14020.1 + bt14012.1), bt14020.2.1, bt14020.2.2.1))))))))) = some (r1, r2, r3, r4, r5, r6) := H
 have A2 := Aside0.mk A20
 clear A20
 replace H := Option.bind_eq_some_iff.mp H
 obtain ⟨⟨t14007, t14010, t14011⟩, A30, H⟩ := H
 replace H : ((spec_l01Cur_edit.f k t14003 t14010 t14011 t14007).bind fun bt14012 => ((spec_l01Cur_edit.f k t14003 bt14012.2.2.2.1 bt14012.2.2.2.2 bt14012.2.2.1).bind fun bt14020 => ((spec_l01Cur_pick.f t14003 bt14020.2.2.2.1 bt14020.2.2.2.2 9).bind fun bt14028 => (if bt14028.1 = 0 then ((spec_l01Cur_edit.f k t14003 bt14028.2.1 bt14028.2.2 t14007).bind fun bt14031 => (some (bt14012.1, bt14012.2.1, bt14012.2.2.1, bt14031.1, bt14031.2.1, bt14031.2.2.1))) else (if bt14028.1 = 1 then ((spec_l01Cur_raw.f t14003 bt14028.2.1 bt14028.2.2).bind fun bt14038 => (some (bt14012.1, bt14038.1, bt14012.2.2.1, wrap64 (bt14020.1 + bt14012.1), bt14020.2.1, bt14020.2.2.1))) else (if bt14028.1 = 2 then ((spec_l01Cur_pick.f t14003 bt14028.2.1 bt14028.2.2 9).bind fun bt14041 => ((spec_l01Cur_pick.f t14003 bt14041.2.1 bt14041.2.2 9).bind fun bt14044 => (if 0 ≤ (wrap64 ((wrap64 (400 - bt14041.1)) + bt14044.1)) then (if (wrap64 ((wrap64 (400 - bt14041.1)) + bt14044.1) : Int).toNat ≤ 281474976710656 then (some (bt14012.1, bt14012.2.1, bt14012.2.2.1, wrap64 (bt14020.1 + bt14012.1), bt14020.2.1, (List.replicate (wrap64 ((wrap64 (400 - bt14041.1)) + bt14044.1) : Int).toNat 0))) else (none)) else (none)))) else (some (bt14012.1, bt14012.2.1, bt14012.2.2.1, wrap64 (bt14020.1 + bt14012.1), bt14020.2.1, bt14020.2.2.1)))))))) = some (r1, r2, r3, r4, r5, r6) := H
 have A3 := Aside0.mk A30
 clear A30
 replace H := Option.bind_eq_some_iff.mp H
 obtain ⟨⟨t14012, t14013, t14014, t14017, t14018⟩, A40, H⟩ := H
 replace H : ((spec_l01Cur_edit.f k t14003 t14017 t14018 t14014).bind fun bt14020 => ((spec_l01Cur_pick.f t14003 bt14020.2.2.2.1 bt14020.2.2.2.2 9).bind fun bt14028 => (if bt14028.1 = 0 then ((spec_l01Cur_edit.f k t14003 bt14028.2.1 bt14028.2.2 t14007).bind fun bt14031 => (some (t14012, t14013, t14014, bt14031.1, bt14031.2.1, bt14031.2.2.1))) else (if bt14028.1 = 1 then ((spec_l01Cur_raw.f t14003 bt14028.2.1 bt14028.2.2).bind fun bt14038 => (some (t14012, bt14038.1, t14014, wrap64 (bt14020.1 + t14012), bt14020.2.1, bt14020.2.2.1))) else (if bt14028.1 = 2 then ((spec_l01Cur_pick.f t14003 bt14028.2.1 bt14028.2.2 9).bind fun bt14041 => ((spec_l01Cur_pick.f t14003 bt14041.2.1 bt14041.2.2 9).bind fun bt14044 => (if 0 ≤ (wrap64 ((wrap64 (400 - bt14041.1)) + bt14044.1)) then (if (wrap64 ((wrap64 (400 - bt14041.1)) + bt14044.1) : Int).toNat ≤ 281474976710656 then (some (t14012, t14013, t14014, wrap64 (bt14020.1 + t14012), bt14020.2.1, (List.replicate (wrap64 ((wrap64 (400 - bt14041.1)) + bt14044.1) : Int).toNat 0))) else (none)) else (none)))) else (some (t14012, t14013, t14014, wrap64 (bt14020.1 + t14012), bt14020.2.1, bt14020.2.2.1))))))) = some (r1, r2, r3, r4, r5, r6) := H
 have A4 := Aside0.mk A40
 clear A40
 replace H := Option.bind_eq_some_iff.mp H
 obtain ⟨⟨t14020, t14021, t14022, t14025, t14026⟩, A50, H⟩ := H
 replace H : ((spec_l01Cur_pick.f t14003 t14025 t14026 9).bind fun bt14028 => (if bt14028.1 = 0 then ((spec_l01Cur_edit.f k t14003 bt14028.2.1 bt14028.2.2 t14007).bind fun bt14031 => (some (t14012, t14013, t14014, bt14031.1, bt14031.2.1, bt14031.2.2.1))) else (if bt14028.1 = 1 then ((spec_l01Cur_raw.f t14003 bt14028.2.1 bt14028.2.2).bind fun bt14038 => (some (t14012, bt14038.1, t14014, wrap64 (t14020 + t14012), t14021, t14022))) else (if bt14028.1 = 2 then ((spec_l01Cur_pick.f t14003 bt14028.2.1 bt14028.2.2 9).bind fun bt14041 => ((spec_l01Cur_pick.f t14003 bt14041.2.1 bt14041.2.2 9).bind fun bt14044 => (if 0 ≤ (wrap64 ((wrap64 (400 - bt14041.1)) + bt14044.1)) then (if (wrap64 ((wrap64 (400 - bt14041.1)) + bt14044.1) : Int).toNat ≤ 281474976710656 then (some (t14012, t14013, t14014, wrap64 (t14020 + t14012), t14021, (List.replicate (wrap64 ((wrap64 (400 - bt14041.1)) + bt14044.1) : Int).toNat 0))) else (none)) else (none)))) else (some (t14012, t14013, t14014, wrap64 (t14020 + t14012), t14021, t14022)))))) = some (r1, r2, r3, r4, r5, r6) := H
 have A5 := Aside0.mk A50
 clear A50
 replace H := Option.bind_eq_some_iff.mp H
 obtain ⟨⟨t14028, t14029, t14030⟩, A60, H⟩ := H
 replace H : (if t14028 = 0 then ((spec_l01Cur_edit.f k t14003 t14029 t14030 t14007).bind fun bt14031 => (some (t14012, t14013, t14014, bt14031.1, bt14031.2.1, bt14031.2.2.1))) else (if t14028 = 1 then ((spec_l01Cur_raw.f t14003 t14029 t14030).bind fun bt14038 => (some (t14012, bt14038.1, t14014, wrap64 (t14020 + t14012), t14021, t14022))) else (if t14028 = 2 then ((spec_l01Cur_pick.f t14003 t14029 t14030 9).bind fun bt14041 => ((spec_l01Cur_pick.f t14003 bt14041.2.1 bt14041.2.2 9).bind fun bt14044 => (if 0 ≤ (wrap64 ((wrap64 (400 - bt14041.1)) + bt14044.1)) then (if (wrap64 ((wrap64 (400 - bt14041.1)) + bt14044.1) : Int).toNat ≤ 281474976710656 then (some (t14012, t14013, t14014, wrap64 (t14020 + t14012), t14021, (List.replicate (wrap64 ((wrap64 (400 - bt14041.1)) + bt14044.1) : Int).toNat 0))) else (none)) else (none)))) else (some (t14012, t14013, t14014, wrap64 (t14020 + t14012), t14021, t14022))))) = some (r1, r2, r3, r4, r5, r6) := H
 have A6 := Aside0.mk A60
 clear A60
 by_cases c7 : t14028 = 0
 ·rw [if_pos c7] at H
  have c7b0 : (t14028 == 0) = true := beq_iff_eq.mpr c7
  have c7b1 : (t14028 != 0) = false := bne_eq_false_iff_eq.mpr c7
  clear c7
  replace H := Option.bind_eq_some_iff.mp H
  obtain ⟨⟨t14031, t14032, t14033, t14036, t14037⟩, A80, H⟩ := H
  replace H : (some (t14012, t14013, t14014, t14031, t14032, t14033)) = some (r1, r2, r3, r4, r5, r6) := H
  have A8 := Aside0.mk A80
  clear A80
  simp only [Option.some.injEq, Prod.mk.injEq] at H
  obtain ⟨rfl, rfl, rfl, rfl, rfl, rfl⟩ := H
  go_enter Tryd.func13, Tryd.ntmps13
  try go_wp2_with (first | ((with_reducible refine gate_dst (N := 2) rfl ?_); refine boxE 2 #[.int .i64 0, .int .i64 0, .slice none 0 0] 25 ?_; intro gb14001 hg w9 BK14001 hb; have GW14001 := Aside0.mk (gsz hg hbw : w.heap.size ≤ gb14001); have GE14001 := GW14001; replace HB := Aside0.mk (below_step hbw hb); clear hb hg) | ((with_reducible refine gate_dst (N := 3) rfl ?_); refine boxE 3 #[.int .i64 0, .int .i64 0, .slice none 0 0] 25 ?_; intro gb14002 hg w10 BK14002 hb; have GW14002 := Aside0.mk (gsz hg hbs : w.heap.size ≤ gb14002); have GE14002 := GW14002; have NB14001_14002 := Aside0.mk (nbl BK14001 hg); have NB14002_14001 := Aside0.mk (nbg BK14001 hg); replace BK14001 := Aside0.mk (bkb BK14001 hb); replace HB := Aside0.mk (below_step hbs hb); clear hb hg) | ((with_reducible refine gate_callee (f := 61) rfl ?_); refine goesM (some 9) Tryd.func61 #[.slice A0 l0.length c0] ?_; (with_reducible refine (spec_l01Open.calls _ _ l0 t14003 t14004 t14005 w _ ?side1 ?side2 ?side3 A2.out).mono ?_); (case side1 => exact hbs); (case side2 => exact HR0.out); (case side3 => exact HC0.out); rintro e w11 ⟨g14006, rfl, hi, hb, hb2⟩; refine ⟨_, rfl, ?_⟩; have HI14006 := Aside0.mk (hi); have NB14006_14001 := Aside0.mk (IsS141.ne_blk hi (bkb BK14001 hb2) (by decide)); have NB14001_14006 := Aside0.mk (Ne.symm (IsS141.ne_blk hi (bkb BK14001 hb2) (by decide))); have NB14006_14002 := Aside0.mk (IsS141.ne_blk hi (bkb BK14002 hb2) (by decide)); have NB14002_14006 := Aside0.mk (Ne.symm (IsS141.ne_blk hi (bkb BK14002 hb2) (by decide))); replace BK14001 := Aside0.mk (bkb BK14001 hb2); replace BK14002 := Aside0.mk (bkb BK14002 hb2); replace HB := Aside0.mk (hb); (try clear hb); (try clear hb2); (try clear hk); (try clear hi)) | ((with_reducible refine gate_callee (f := 62) rfl ?_); refine goesM (some 11) Tryd.func62 #[.pointer (some ⟨g14006, 0, none⟩), .int .i64 40] ?_; (with_reducible refine (spec_l01Cur_text.calls k g14006 t14003 t14004 t14005 40 t14007 t14010 t14011 w _ ?side1 ?side2 A3.out).mono ?_); (case side1 => exact pIIsS141 HI14006); (case side2 => exact hbIsS141); rintro e w12 ⟨v14008, rfl, ho0, hi, hb, hk⟩; refine ⟨_, rfl, ?_⟩; have HO14009 := Aside0.mk (Kd.R_lower ho0 (below_size hbIsS141)); replace BK14001 := Aside0.mk (bkk hk BK14001 NB14001_14006.out); replace BK14002 := Aside0.mk (bkk hk BK14002 NB14002_14006.out); replace HB := Aside0.mk (hb); replace HI14006 := Aside0.mk (hi); (try clear hb); (try clear hb2); (try clear hk); (try clear hi); (try clear ho0); obtain ⟨Ao13, co13, eo13⟩ := Kd.R_slice HO14009.out; subst eo13) | ((with_reducible refine gate_callee (f := 63) rfl ?_); refine goesM (some 14) Tryd.func63 #[.pointer (some ⟨g14006, 0, none⟩), .slice Ao13 t14007.length co13] ?_; (with_reducible refine (spec_l01Cur_edit.calls k g14006 t14003 t14010 t14011 _ _ t14007 t14012 t14013 t14014 t14017 t14018 w _ ?side1 ?side2 ?side3 ?side4 ?side5 A4.out).mono ?_); (case side1 => exact pIIsS141 HI14006); (case side2 => exact hbIsS141); (case side3 => exact cpl (Kd.R_reads' HO14009.out).2.2); (case side4 => exact (Kd.R_reads' HO14009.out).2.1); (case side5 => exact far_slice (IsS141.own_ne HI14006.out HO14009.out (by decide))); rintro e w14 ⟨v14015, rfl, ho0, hi, hb, hk⟩; refine ⟨_, rfl, ?_⟩; have HO14016 := Aside0.mk (Kd.R_lower (Kd.R_new' ho0 (Kd.R_lt (hrnR HO14009))) (below_size hbIsS141)); replace BK14001 := Aside0.mk (bkk hk BK14001 NB14001_14006.out); replace BK14002 := Aside0.mk (bkk hk BK14002 NB14002_14006.out); replace HO14009 := Aside0.mk (Kd.R_mono (Kd.R_told (Kd.R_oldK (IsS141.apart (show IsS141 w _ g14006 t14003 t14010 t14011 from pIIsS141 HI14006) (hrnR HO14009) (by decide)) hk) (Kd.R_base ho0)) (fun _ h_ => h_.1)); replace HB := Aside0.mk (hb); replace HI14006 := Aside0.mk (hi); (try clear hb); (try clear hb2); (try clear hk); (try clear hi); (try clear ho0)) | ((with_reducible refine gate_dst (N := 6) rfl ?_); refine boxE 6 #[.int .i64 0, .int .i64 0, .slice none 0 0] 25 ?_; intro gb14019 hg w15 BK14019 hb; have GW14019 := Aside0.mk (gsz hg hbIsS141 : w.heap.size ≤ gb14019); have GE14019 := GW14019; have NB14001_14019 := Aside0.mk (nbl BK14001 hg); have NB14019_14001 := Aside0.mk (nbg BK14001 hg); have NB14002_14019 := Aside0.mk (nbl BK14002 hg); have NB14019_14002 := Aside0.mk (nbg BK14002 hg); have NB14006_14019 := Aside0.mk ((by rw [hg]; exact Nat.ne_of_lt (IsS141.lt (show IsS141 w _ g14006 t14003 t14017 t14018 from pIIsS141 HI14006)) : g14006 ≠ gb14019)); have NB14019_14006 := Aside0.mk ((by rw [hg]; exact Nat.ne_of_gt (IsS141.lt (show IsS141 w _ g14006 t14003 t14017 t14018 from pIIsS141 HI14006)) : gb14019 ≠ g14006)); replace HO14009 := Aside0.mk (Kd.R_below (hrnR HO14009) hb); replace HO14016 := Aside0.mk (Kd.R_below (hrnR HO14016) hb); replace BK14001 := Aside0.mk (bkb BK14001 hb); replace BK14002 := Aside0.mk (bkb BK14002 hb); replace HB := Aside0.mk (below_step hbIsS141 hb); replace HI14006 := Aside0.mk (IsS141.below (pIIsS141 HI14006) hb); clear hb hg; have hnb16 := NB14019_14001.out; have hnc16 := NB14001_14019.out; have hnb17 := NB14019_14002.out; have hnc17 := NB14002_14019.out; have hnb18 := NB14019_14006.out; have hnc18 := NB14006_14019.out; have hcz19_0 : w15.cell? ⟨gb14019, 0, none⟩ = some (.int .i64 0) := (blk_cell BK14019.out 0).trans rfl; have hcz19_1 : w15.cell? ⟨gb14019, 1, none⟩ = some (.int .i64 0) := (blk_cell BK14019.out 1).trans rfl; have hcz19_2 : w15.cell? ⟨gb14019, 2, none⟩ = some (.slice none 0 0) := (blk_cell BK14019.out 2).trans rfl; have hfz19_0 := blk_frozen BK14019.out 0; have hfz19_1 := blk_frozen BK14019.out 1; have hfz19_2 := blk_frozen BK14019.out 2; obtain ⟨Ao20, co20, eo20⟩ := Kd.R_slice HO14016.out; subst eo20) | ((with_reducible refine gate_callee (f := 63) rfl ?_); refine goesM (some 18) Tryd.func63 #[.pointer (some ⟨g14006, 0, none⟩), .slice Ao20 t14014.length co20] ?_; (with_reducible refine (spec_l01Cur_edit.calls k g14006 t14003 t14017 t14018 _ _ t14014 t14020 t14021 t14022 t14025 t14026 w _ ?side1 ?side2 ?side3 ?side4 ?side5 A5.out).mono ?_); (case side1 => exact pIIsS141 HI14006); (case side2 => exact hbIsS141); (case side3 => refine (Kd.R_reads' (e := 5) (base := w.heap.size) (ok := fun k_ => (True ∧ some k_ ≠ (.slice Ao13 t14007.length co13 : Value).ownBlock)) (n := t14014.length) (c := co20) ?_).2.2; exact (by (with_reducible repeat (first | apply Kd.R_alloc | apply Kd.R_drewN | apply Kd.R_drew)); exact (Kd.R_mono (Kd.R_far (p := ⟨gb14019, 2, none⟩) (Kd.R_far (p := ⟨gb14019, 1, none⟩) (Kd.R_far (p := ⟨gb14019, 0, none⟩) (Kd.R_types HO14016.out BK14019.out (by decide)) (fun _ hk => hk.2) (.int .i64 t14012)) (fun _ hk => hk.2) (.int .i64 t14013)) (fun _ hk => hk.2) (.slice Ao20 t14014.length co20)) (fun _ h_ => h_.1)))); (case side4 => exact (Kd.R_reads' HO14016.out).2.1); (case side5 => exact far_slice (IsS141.own_ne HI14006.out HO14016.out (by decide))); rintro e w21 ⟨v14023, rfl, ho0, hi, hb, hk⟩; refine ⟨_, rfl, ?_⟩; have HO14024 := Aside0.mk (Kd.R_lower (Kd.R_new' (Kd.R_new' ho0 (Kd.R_lt (by (with_reducible repeat (first | apply Kd.R_alloc | apply Kd.R_drewN | apply Kd.R_drew)); exact (Kd.R_mono (Kd.R_far (p := ⟨gb14019, 2, none⟩) (Kd.R_far (p := ⟨gb14019, 1, none⟩) (Kd.R_far (p := ⟨gb14019, 0, none⟩) (Kd.R_types HO14009.out BK14019.out (by decide)) (fun _ hk => hk.2) (.int .i64 t14012)) (fun _ hk => hk.2) (.int .i64 t14013)) (fun _ hk => hk.2) (.slice Ao20 t14014.length co20)) (fun _ h_ => h_.1))))) (Kd.R_lt (by (with_reducible repeat (first | apply Kd.R_alloc | apply Kd.R_drewN | apply Kd.R_drew)); exact (Kd.R_mono (Kd.R_far (p := ⟨gb14019, 2, none⟩) (Kd.R_far (p := ⟨gb14019, 1, none⟩) (Kd.R_far (p := ⟨gb14019, 0, none⟩) (Kd.R_types HO14016.out BK14019.out (by decide)) (fun _ hk => hk.2) (.int .i64 t14012)) (fun _ hk => hk.2) (.int .i64 t14013)) (fun _ hk => hk.2) (.slice Ao20 t14014.length co20)) (fun _ h_ => h_.1))))) (below_size hbIsS141)); replace BK14001 := Aside0.mk (KeepBut.blk hk (g' := gb14001) (o := .cells #[.int .i64 0, .int .i64 0, .slice none 0 0] 25 (0, 0)) (by refine pB ?_; refine blk_far ?_ NB14001_14019.out _; refine pB ?_; refine blk_far ?_ NB14001_14019.out _; refine pB ?_; refine blk_far ?_ NB14001_14019.out _; refine pB ?_; exact BK14001.out) NB14001_14006.out (by simp)); replace BK14002 := Aside0.mk (KeepBut.blk hk (g' := gb14002) (o := .cells #[.int .i64 0, .int .i64 0, .slice none 0 0] 25 (0, 0)) (by refine pB ?_; refine blk_far ?_ NB14002_14019.out _; refine pB ?_; refine blk_far ?_ NB14002_14019.out _; refine pB ?_; refine blk_far ?_ NB14002_14019.out _; refine pB ?_; exact BK14002.out) NB14002_14006.out (by simp)); replace HO14009 := Aside0.mk (Kd.R_mono (Kd.R_told (Kd.R_oldK (IsS141.apart (show IsS141 w _ g14006 t14003 t14017 t14018 from pIIsS141 HI14006) (by (with_reducible repeat (first | apply Kd.R_alloc | apply Kd.R_drewN | apply Kd.R_drew)); exact (Kd.R_mono (Kd.R_far (p := ⟨gb14019, 2, none⟩) (Kd.R_far (p := ⟨gb14019, 1, none⟩) (Kd.R_far (p := ⟨gb14019, 0, none⟩) (Kd.R_types HO14009.out BK14019.out (by decide)) (fun _ hk => hk.2) (.int .i64 t14012)) (fun _ hk => hk.2) (.int .i64 t14013)) (fun _ hk => hk.2) (.slice Ao20 t14014.length co20)) (fun _ h_ => h_.1))) (by decide)) hk) (Kd.R_base ho0)) (fun _ h_ => h_.1)); replace HO14016 := Aside0.mk (Kd.R_mono (Kd.R_told (Kd.R_oldK (IsS141.apart (show IsS141 w _ g14006 t14003 t14017 t14018 from pIIsS141 HI14006) (by (with_reducible repeat (first | apply Kd.R_alloc | apply Kd.R_drewN | apply Kd.R_drew)); exact (Kd.R_mono (Kd.R_far (p := ⟨gb14019, 2, none⟩) (Kd.R_far (p := ⟨gb14019, 1, none⟩) (Kd.R_far (p := ⟨gb14019, 0, none⟩) (Kd.R_types HO14016.out BK14019.out (by decide)) (fun _ hk => hk.2) (.int .i64 t14012)) (fun _ hk => hk.2) (.int .i64 t14013)) (fun _ hk => hk.2) (.slice Ao20 t14014.length co20)) (fun _ h_ => h_.1))) (by decide)) hk) (Kd.R_base ho0)) (fun _ h_ => h_.1)); replace BK14019 := Aside0.mk (KeepBut.blk hk (g' := gb14019) (o := .cells #[.int .i64 t14012, .int .i64 t14013, .slice Ao20 t14014.length co20] 25 (0, 0)) (by refine pB ?_; refine blk_put (cs := #[.int .i64 t14012, .int .i64 t14013, .slice none 0 0]) ?_ 2 _ rfl; refine pB ?_; refine blk_put (cs := #[.int .i64 t14012, .int .i64 0, .slice none 0 0]) ?_ 1 _ rfl; refine pB ?_; refine blk_put (cs := #[.int .i64 0, .int .i64 0, .slice none 0 0]) ?_ 0 _ rfl; refine pB ?_; exact BK14019.out) NB14019_14006.out (by simp)); replace HB := Aside0.mk (hb); replace HI14006 := Aside0.mk (hi); (try clear hb); (try clear hb2); (try clear hk); (try clear hi); (try clear ho0)) | ((with_reducible refine gate_dst (N := 7) rfl ?_); refine boxE 7 #[.int .i64 0, .int .i64 0, .slice none 0 0] 25 ?_; intro gb14027 hg w22 BK14027 hb; have GW14027 := Aside0.mk (gsz hg hbIsS141 : w.heap.size ≤ gb14027); have GE14027 := GW14027; have NB14001_14027 := Aside0.mk (nbl BK14001 hg); have NB14027_14001 := Aside0.mk (nbg BK14001 hg); have NB14002_14027 := Aside0.mk (nbl BK14002 hg); have NB14027_14002 := Aside0.mk (nbg BK14002 hg); have NB14019_14027 := Aside0.mk (nbl BK14019 hg); have NB14027_14019 := Aside0.mk (nbg BK14019 hg); have NB14006_14027 := Aside0.mk ((by rw [hg]; exact Nat.ne_of_lt (IsS141.lt (show IsS141 w _ g14006 t14003 t14025 t14026 from pIIsS141 HI14006)) : g14006 ≠ gb14027)); have NB14027_14006 := Aside0.mk ((by rw [hg]; exact Nat.ne_of_gt (IsS141.lt (show IsS141 w _ g14006 t14003 t14025 t14026 from pIIsS141 HI14006)) : gb14027 ≠ g14006)); replace HO14009 := Aside0.mk (Kd.R_below (hrnR HO14009) hb); replace HO14016 := Aside0.mk (Kd.R_below (hrnR HO14016) hb); replace HO14024 := Aside0.mk (Kd.R_below (hrnR HO14024) hb); replace BK14001 := Aside0.mk (bkb BK14001 hb); replace BK14002 := Aside0.mk (bkb BK14002 hb); replace BK14019 := Aside0.mk (bkb BK14019 hb); replace HB := Aside0.mk (below_step hbIsS141 hb); replace HI14006 := Aside0.mk (IsS141.below (pIIsS141 HI14006) hb); clear hb hg; have hnb23 := NB14027_14001.out; have hnc23 := NB14001_14027.out; have hnb24 := NB14027_14002.out; have hnc24 := NB14002_14027.out; have hnb25 := NB14027_14019.out; have hnc25 := NB14019_14027.out; have hnb26 := NB14027_14006.out; have hnc26 := NB14006_14027.out; have hcz27_0 : w22.cell? ⟨gb14027, 0, none⟩ = some (.int .i64 0) := (blk_cell BK14027.out 0).trans rfl; have hcz27_1 : w22.cell? ⟨gb14027, 1, none⟩ = some (.int .i64 0) := (blk_cell BK14027.out 1).trans rfl; have hcz27_2 : w22.cell? ⟨gb14027, 2, none⟩ = some (.slice none 0 0) := (blk_cell BK14027.out 2).trans rfl; have hfz27_0 := blk_frozen BK14027.out 0; have hfz27_1 := blk_frozen BK14027.out 1; have hfz27_2 := blk_frozen BK14027.out 2; obtain ⟨Ao28, co28, eo28⟩ := Kd.R_slice HO14024.out; subst eo28; have hcz29_0 : w22.cell? ⟨gb14019, 0, none⟩ = some (.int .i64 t14012) := (blk_cell BK14019.out 0).trans rfl; have hcz29_1 : w22.cell? ⟨gb14019, 1, none⟩ = some (.int .i64 t14013) := (blk_cell BK14019.out 1).trans rfl; have hcz29_2 : w22.cell? ⟨gb14019, 2, none⟩ = some (.slice Ao20 t14014.length co20) := (blk_cell BK14019.out 2).trans rfl; have hfz29_0 := blk_frozen BK14019.out 0; have hfz29_1 := blk_frozen BK14019.out 1; have hfz29_2 := blk_frozen BK14019.out 2) | ((with_reducible refine gate_callee (f := 64) rfl ?_); refine goesM (some 26) Tryd.func64 #[.pointer (some ⟨g14006, 0, none⟩), .int .i64 9] ?_; (with_reducible refine (spec_l01Cur_pick.calls g14006 t14003 t14025 t14026 9 t14028 t14029 t14030 w _ ?side1 ?side2 A6.out).mono ?_); (case side1 => exact pIIsS141 HI14006); (case side2 => exact hbIsS141); rintro e w30 ⟨rfl, hi, hb, hk⟩; refine ⟨_, rfl, ?_⟩; replace BK14001 := Aside0.mk (KeepBut.blk hk (g' := gb14001) (o := .cells #[.int .i64 0, .int .i64 0, .slice none 0 0] 25 (0, 0)) (by refine pB ?_; refine blk_far ?_ NB14001_14027.out _; refine pB ?_; refine blk_far ?_ NB14001_14027.out _; refine pB ?_; refine blk_far ?_ NB14001_14027.out _; refine pB ?_; refine blk_far ?_ NB14001_14027.out _; refine pB ?_; exact BK14001.out) NB14001_14006.out (by simp)); replace BK14002 := Aside0.mk (KeepBut.blk hk (g' := gb14002) (o := .cells #[.int .i64 0, .int .i64 0, .slice none 0 0] 25 (0, 0)) (by refine pB ?_; refine blk_far ?_ NB14002_14027.out _; refine pB ?_; refine blk_far ?_ NB14002_14027.out _; refine pB ?_; refine blk_far ?_ NB14002_14027.out _; refine pB ?_; refine blk_far ?_ NB14002_14027.out _; refine pB ?_; exact BK14002.out) NB14002_14006.out (by simp)); replace HO14009 := Aside0.mk (Kd.R_mono (Kd.R_keep (IsS141.apart (show IsS141 w _ g14006 t14003 t14025 t14026 from pIIsS141 HI14006) (by (with_reducible repeat (first | apply Kd.R_alloc | apply Kd.R_drewN | apply Kd.R_drew)); exact (Kd.R_mono (Kd.R_far (p := ⟨gb14027, 0, none⟩) (Kd.R_far (p := ⟨gb14027, 2, none⟩) (Kd.R_far (p := ⟨gb14027, 1, none⟩) (Kd.R_far (p := ⟨gb14027, 0, none⟩) (Kd.R_types HO14009.out BK14027.out (by decide)) (fun _ hk => hk.2) (.int .i64 t14020)) (fun _ hk => hk.2) (.int .i64 t14021)) (fun _ hk => hk.2) (.slice Ao28 t14022.length co28)) (fun _ hk => hk.2) (.int .i64 (wrap64 (t14020 + t14012)))) (fun _ h_ => h_.1))) (by decide)) hk (fun _ h => h.2)) (fun _ h => h.1)); replace HO14016 := Aside0.mk (Kd.R_mono (Kd.R_keep (IsS141.apart (show IsS141 w _ g14006 t14003 t14025 t14026 from pIIsS141 HI14006) (by (with_reducible repeat (first | apply Kd.R_alloc | apply Kd.R_drewN | apply Kd.R_drew)); exact (Kd.R_mono (Kd.R_far (p := ⟨gb14027, 0, none⟩) (Kd.R_far (p := ⟨gb14027, 2, none⟩) (Kd.R_far (p := ⟨gb14027, 1, none⟩) (Kd.R_far (p := ⟨gb14027, 0, none⟩) (Kd.R_types HO14016.out BK14027.out (by decide)) (fun _ hk => hk.2) (.int .i64 t14020)) (fun _ hk => hk.2) (.int .i64 t14021)) (fun _ hk => hk.2) (.slice Ao28 t14022.length co28)) (fun _ hk => hk.2) (.int .i64 (wrap64 (t14020 + t14012)))) (fun _ h_ => h_.1))) (by decide)) hk (fun _ h => h.2)) (fun _ h => h.1)); replace BK14019 := Aside0.mk (KeepBut.blk hk (g' := gb14019) (o := .cells #[.int .i64 t14012, .int .i64 t14013, .slice Ao20 t14014.length co20] 25 (0, 0)) (by refine pB ?_; refine blk_far ?_ NB14019_14027.out _; refine pB ?_; refine blk_far ?_ NB14019_14027.out _; refine pB ?_; refine blk_far ?_ NB14019_14027.out _; refine pB ?_; refine blk_far ?_ NB14019_14027.out _; refine pB ?_; exact BK14019.out) NB14019_14006.out (by simp)); replace HO14024 := Aside0.mk (Kd.R_mono (Kd.R_keep (IsS141.apart (show IsS141 w _ g14006 t14003 t14025 t14026 from pIIsS141 HI14006) (by (with_reducible repeat (first | apply Kd.R_alloc | apply Kd.R_drewN | apply Kd.R_drew)); exact (Kd.R_mono (Kd.R_far (p := ⟨gb14027, 0, none⟩) (Kd.R_far (p := ⟨gb14027, 2, none⟩) (Kd.R_far (p := ⟨gb14027, 1, none⟩) (Kd.R_far (p := ⟨gb14027, 0, none⟩) (Kd.R_types HO14024.out BK14027.out (by decide)) (fun _ hk => hk.2) (.int .i64 t14020)) (fun _ hk => hk.2) (.int .i64 t14021)) (fun _ hk => hk.2) (.slice Ao28 t14022.length co28)) (fun _ hk => hk.2) (.int .i64 (wrap64 (t14020 + t14012)))) (fun _ h_ => h_.1))) (by decide)) hk (fun _ h => h.2)) (fun _ h => h.1)); replace BK14027 := Aside0.mk (KeepBut.blk hk (g' := gb14027) (o := .cells #[.int .i64 (wrap64 (t14020 + t14012)), .int .i64 t14021, .slice Ao28 t14022.length co28] 25 (0, 0)) (by refine pB ?_; refine blk_put (cs := #[.int .i64 t14020, .int .i64 t14021, .slice Ao28 t14022.length co28]) ?_ 0 _ rfl; refine pB ?_; refine blk_put (cs := #[.int .i64 t14020, .int .i64 t14021, .slice none 0 0]) ?_ 2 _ rfl; refine pB ?_; refine blk_put (cs := #[.int .i64 t14020, .int .i64 0, .slice none 0 0]) ?_ 1 _ rfl; refine pB ?_; refine blk_put (cs := #[.int .i64 0, .int .i64 0, .slice none 0 0]) ?_ 0 _ rfl; refine pB ?_; exact BK14027.out) NB14027_14006.out (by simp)); replace HB := Aside0.mk (hb); replace HI14006 := Aside0.mk (hi); (try clear hb); (try clear hb2); (try clear hk); (try clear hi)) | ((with_reducible refine gate_callee (f := 63) rfl ?_); refine goesM (some 31) Tryd.func63 #[.pointer (some ⟨g14006, 0, none⟩), .slice Ao13 t14007.length co13] ?_; (with_reducible refine (spec_l01Cur_edit.calls k g14006 t14003 t14029 t14030 _ _ t14007 t14031 t14032 t14033 t14036 t14037 w _ ?side1 ?side2 ?side3 ?side4 ?side5 A8.out).mono ?_); (case side1 => exact pIIsS141 HI14006); (case side2 => exact hbIsS141); (case side3 => exact cpl (Kd.R_reads' HO14009.out).2.2); (case side4 => exact (Kd.R_reads' HO14009.out).2.1); (case side5 => exact far_slice (IsS141.own_ne HI14006.out HO14009.out (by decide))); rintro e w31 ⟨v14034, rfl, ho0, hi, hb, hk⟩; refine ⟨_, rfl, ?_⟩; have HO14035 := Aside0.mk (Kd.R_lower (Kd.R_new' (Kd.R_new' (Kd.R_new' ho0 (Kd.R_lt (hrnR HO14009))) (Kd.R_lt (hrnR HO14016))) (Kd.R_lt (hrnR HO14024))) (below_size hbIsS141)); replace BK14001 := Aside0.mk (bkk hk BK14001 NB14001_14006.out); replace BK14002 := Aside0.mk (bkk hk BK14002 NB14002_14006.out); replace HO14009 := Aside0.mk (Kd.R_mono (Kd.R_told (Kd.R_oldK (IsS141.apart (show IsS141 w _ g14006 t14003 t14029 t14030 from pIIsS141 HI14006) (hrnR HO14009) (by decide)) hk) (Kd.R_base ho0)) (fun _ h_ => h_.1)); replace HO14016 := Aside0.mk (Kd.R_mono (Kd.R_told (Kd.R_oldK (IsS141.apart (show IsS141 w _ g14006 t14003 t14029 t14030 from pIIsS141 HI14006) (hrnR HO14016) (by decide)) hk) (Kd.R_base ho0)) (fun _ h_ => h_.1)); replace BK14019 := Aside0.mk (bkk hk BK14019 NB14019_14006.out); replace HO14024 := Aside0.mk (Kd.R_mono (Kd.R_told (Kd.R_oldK (IsS141.apart (show IsS141 w _ g14006 t14003 t14029 t14030 from pIIsS141 HI14006) (hrnR HO14024) (by decide)) hk) (Kd.R_base ho0)) (fun _ h_ => h_.1)); replace BK14027 := Aside0.mk (bkk hk BK14027 NB14027_14006.out); replace HB := Aside0.mk (hb); replace HI14006 := Aside0.mk (hi); (try clear hb); (try clear hb2); (try clear hk); (try clear hi); (try clear ho0); have hcz32_0 : w31.cell? ⟨gb14027, 0, none⟩ = some (.int .i64 (wrap64 (t14020 + t14012))) := (blk_cell BK14027.out 0).trans rfl; have hcz32_1 : w31.cell? ⟨gb14027, 1, none⟩ = some (.int .i64 t14021) := (blk_cell BK14027.out 1).trans rfl; have hcz32_2 : w31.cell? ⟨gb14027, 2, none⟩ = some (.slice Ao28 t14022.length co28) := (blk_cell BK14027.out 2).trans rfl; have hfz32_0 := blk_frozen BK14027.out 0; have hfz32_1 := blk_frozen BK14027.out 1; have hfz32_2 := blk_frozen BK14027.out 2; obtain ⟨Ao33, co33, eo33⟩ := Kd.R_slice HO14035.out; subst eo33))
  have n0_ : Aside0 (Kd.R (Kd.int .u8) 5 (((w31.setCell ⟨gb14027, 0, none⟩ (.int .i64 t14031)).setCell ⟨gb14027, 1, none⟩ (.int .i64 t14032)).setCell ⟨gb14027, 2, none⟩ (.slice Ao33 t14033.length co33)) w.heap.size (fun k_ => some k_ ≠ (.slice Ao20 t14014.length co20 : Value).ownBlock ∧ some k_ ≠ (.slice Ao28 t14022.length co28 : Value).ownBlock ∧ some k_ ≠ (.slice Ao33 t14033.length co33 : Value).ownBlock) (.slice Ao13 t14007.length co13) t14007) := ⟨by (with_reducible repeat (first | apply Kd.R_alloc | apply Kd.R_drewN | apply Kd.R_drew)); exact Kd.R_mono (Kd.R_far (p := ⟨gb14027, 2, none⟩) (Kd.R_far (p := ⟨gb14027, 1, none⟩) (Kd.R_far (p := ⟨gb14027, 0, none⟩) (Kd.R_types HO14009.out BK14027.out (by decide)) (fun _ hk => hk.2) (.int .i64 t14031)) (fun _ hk => hk.2) (.int .i64 t14032)) (fun _ hk => hk.2) (.slice Ao33 t14033.length co33)) (fun _ hk => ⟨hk.1.1.1.2, ⟨hk.1.1.2, hk.1.2⟩⟩)⟩
  have n1_ : Aside0 (Kd.R (Kd.int .u8) 5 (((w31.setCell ⟨gb14027, 0, none⟩ (.int .i64 t14031)).setCell ⟨gb14027, 1, none⟩ (.int .i64 t14032)).setCell ⟨gb14027, 2, none⟩ (.slice Ao33 t14033.length co33)) w.heap.size (fun k_ => some k_ ≠ (.slice Ao13 t14007.length co13 : Value).ownBlock ∧ some k_ ≠ (.slice Ao28 t14022.length co28 : Value).ownBlock ∧ some k_ ≠ (.slice Ao33 t14033.length co33 : Value).ownBlock) (.slice Ao20 t14014.length co20) t14014) := ⟨by (with_reducible repeat (first | apply Kd.R_alloc | apply Kd.R_drewN | apply Kd.R_drew)); exact Kd.R_mono (Kd.R_far (p := ⟨gb14027, 2, none⟩) (Kd.R_far (p := ⟨gb14027, 1, none⟩) (Kd.R_far (p := ⟨gb14027, 0, none⟩) (Kd.R_types HO14016.out BK14027.out (by decide)) (fun _ hk => hk.2) (.int .i64 t14031)) (fun _ hk => hk.2) (.int .i64 t14032)) (fun _ hk => hk.2) (.slice Ao33 t14033.length co33)) (fun _ hk => ⟨hk.1.1.1.2, ⟨hk.1.1.2, hk.1.2⟩⟩)⟩
  have n2_ : Aside0 (Kd.R (Kd.int .u8) 5 (((w31.setCell ⟨gb14027, 0, none⟩ (.int .i64 t14031)).setCell ⟨gb14027, 1, none⟩ (.int .i64 t14032)).setCell ⟨gb14027, 2, none⟩ (.slice Ao33 t14033.length co33)) w.heap.size (fun k_ => some k_ ≠ (.slice Ao13 t14007.length co13 : Value).ownBlock ∧ some k_ ≠ (.slice Ao20 t14014.length co20 : Value).ownBlock ∧ some k_ ≠ (.slice Ao33 t14033.length co33 : Value).ownBlock) (.slice Ao28 t14022.length co28) t14022) := ⟨by (with_reducible repeat (first | apply Kd.R_alloc | apply Kd.R_drewN | apply Kd.R_drew)); exact Kd.R_mono (Kd.R_far (p := ⟨gb14027, 2, none⟩) (Kd.R_far (p := ⟨gb14027, 1, none⟩) (Kd.R_far (p := ⟨gb14027, 0, none⟩) (Kd.R_types HO14024.out BK14027.out (by decide)) (fun _ hk => hk.2) (.int .i64 t14031)) (fun _ hk => hk.2) (.int .i64 t14032)) (fun _ hk => hk.2) (.slice Ao33 t14033.length co33)) (fun _ hk => ⟨hk.1.1.1.2, ⟨hk.1.1.2, hk.1.2⟩⟩)⟩
  have n3_ : Aside0 (Kd.R (Kd.int .u8) 5 (((w31.setCell ⟨gb14027, 0, none⟩ (.int .i64 t14031)).setCell ⟨gb14027, 1, none⟩ (.int .i64 t14032)).setCell ⟨gb14027, 2, none⟩ (.slice Ao33 t14033.length co33)) w.heap.size (fun k_ => some k_ ≠ (.slice Ao13 t14007.length co13 : Value).ownBlock ∧ some k_ ≠ (.slice Ao20 t14014.length co20 : Value).ownBlock ∧ some k_ ≠ (.slice Ao28 t14022.length co28 : Value).ownBlock) (.slice Ao33 t14033.length co33) t14033) := ⟨by (with_reducible repeat (first | apply Kd.R_alloc | apply Kd.R_drewN | apply Kd.R_drew)); exact Kd.R_mono (Kd.R_far (p := ⟨gb14027, 2, none⟩) (Kd.R_far (p := ⟨gb14027, 1, none⟩) (Kd.R_far (p := ⟨gb14027, 0, none⟩) (Kd.R_types HO14035.out BK14027.out (by decide)) (fun _ hk => hk.2) (.int .i64 t14031)) (fun _ hk => hk.2) (.int .i64 t14032)) (fun _ hk => hk.2) (.slice Ao33 t14033.length co33)) (fun _ hk => ⟨hk.1.1.1.2, ⟨hk.1.1.2, hk.1.2⟩⟩)⟩
  have n4_ : Aside0 ((((w31.setCell ⟨gb14027, 0, none⟩ (.int .i64 t14031)).setCell ⟨gb14027, 1, none⟩ (.int .i64 t14032)).setCell ⟨gb14027, 2, none⟩ (.slice Ao33 t14033.length co33)).heap[gb14001]? = some (.cells #[.int .i64 0, .int .i64 0, .slice none 0 0] 25 (0, 0))) := ⟨by refine pB ?_; refine blk_far ?_ NB14001_14027.out _; refine pB ?_; refine blk_far ?_ NB14001_14027.out _; refine pB ?_; refine blk_far ?_ NB14001_14027.out _; refine pB ?_; exact BK14001.out⟩
  have n5_ : Aside0 ((((w31.setCell ⟨gb14027, 0, none⟩ (.int .i64 t14031)).setCell ⟨gb14027, 1, none⟩ (.int .i64 t14032)).setCell ⟨gb14027, 2, none⟩ (.slice Ao33 t14033.length co33)).heap[gb14002]? = some (.cells #[.int .i64 0, .int .i64 0, .slice none 0 0] 25 (0, 0))) := ⟨by refine pB ?_; refine blk_far ?_ NB14002_14027.out _; refine pB ?_; refine blk_far ?_ NB14002_14027.out _; refine pB ?_; refine blk_far ?_ NB14002_14027.out _; refine pB ?_; exact BK14002.out⟩
  have n6_ : Aside0 ((((w31.setCell ⟨gb14027, 0, none⟩ (.int .i64 t14031)).setCell ⟨gb14027, 1, none⟩ (.int .i64 t14032)).setCell ⟨gb14027, 2, none⟩ (.slice Ao33 t14033.length co33)).heap[gb14019]? = some (.cells #[.int .i64 t14012, .int .i64 t14013, .slice Ao20 t14014.length co20] 25 (0, 0))) := ⟨by refine pB ?_; refine blk_far ?_ NB14019_14027.out _; refine pB ?_; refine blk_far ?_ NB14019_14027.out _; refine pB ?_; refine blk_far ?_ NB14019_14027.out _; refine pB ?_; exact BK14019.out⟩
  have n7_ : Aside0 ((((w31.setCell ⟨gb14027, 0, none⟩ (.int .i64 t14031)).setCell ⟨gb14027, 1, none⟩ (.int .i64 t14032)).setCell ⟨gb14027, 2, none⟩ (.slice Ao33 t14033.length co33)).heap[gb14027]? = some (.cells #[.int .i64 t14031, .int .i64 t14032, .slice Ao33 t14033.length co33] 25 (0, 0))) := ⟨by refine pB ?_; refine blk_put (cs := #[.int .i64 t14031, .int .i64 t14032, .slice Ao28 t14022.length co28]) ?_ 2 _ rfl; refine pB ?_; refine blk_put (cs := #[.int .i64 t14031, .int .i64 t14021, .slice Ao28 t14022.length co28]) ?_ 1 _ rfl; refine pB ?_; refine blk_put (cs := #[.int .i64 (wrap64 (t14020 + t14012)), .int .i64 t14021, .slice Ao28 t14022.length co28]) ?_ 0 _ rfl; refine pB ?_; exact BK14027.out⟩
  have n8_ : Aside0 (IsS141 w (((w31.setCell ⟨gb14027, 0, none⟩ (.int .i64 t14031)).setCell ⟨gb14027, 1, none⟩ (.int .i64 t14032)).setCell ⟨gb14027, 2, none⟩ (.slice Ao33 t14033.length co33)) g14006 t14003 t14036 t14037) := ⟨pIIsS141 HI14006⟩
  have n9_ : Aside0 (Below w.heap.size w (((w31.setCell ⟨gb14027, 0, none⟩ (.int .i64 t14031)).setCell ⟨gb14027, 1, none⟩ (.int .i64 t14032)).setCell ⟨gb14027, 2, none⟩ (.slice Ao33 t14033.length co33))) := ⟨hbIsS141⟩
  (try clear HO14009)
  (try clear HO14016)
  (try clear HO14024)
  (try clear HO14035)
  (try clear BK14001)
  (try clear BK14002)
  (try clear BK14019)
  (try clear BK14027)
  (try clear HI14006)
  (try clear HB)
  generalize (((w31.setCell ⟨gb14027, 0, none⟩ (.int .i64 t14031)).setCell ⟨gb14027, 1, none⟩ (.int .i64 t14032)).setCell ⟨gb14027, 2, none⟩ (.slice Ao33 t14033.length co33)) = w34 at n0_ n1_ n2_ n3_ n4_ n5_ n6_ n7_ n8_ n9_ ⊢
  have HO14009 := n0_
  have HO14016 := n1_
  have HO14024 := n2_
  have HO14035 := n3_
  have BK14001 := n4_
  have BK14002 := n5_
  have BK14019 := n6_
  have BK14027 := n7_
  have HI14006 := n8_
  have HB := n9_
  clear n0_ n1_ n2_ n3_ n4_ n5_ n6_ n7_ n8_ n9_
  replace HO14009 := Aside0.mk (Kd.R_drew HO14009.out)
  replace HO14016 := Aside0.mk (Kd.R_drew HO14016.out)
  replace HO14024 := Aside0.mk (Kd.R_drew HO14024.out)
  replace HO14035 := Aside0.mk (Kd.R_drew HO14035.out)
  replace BK14001 := Aside0.mk (blk_drew BK14001.out)
  replace BK14002 := Aside0.mk (blk_drew BK14002.out)
  replace BK14019 := Aside0.mk (blk_drew BK14019.out)
  replace BK14027 := Aside0.mk (blk_drew BK14027.out)
  replace HI14006 := Aside0.mk (IsS141.drew HI14006.out)
  replace HB := Aside0.mk (below_drew1 HB.out)
  refine start_ (n := 4) (S := fun w' => w'.cell? ⟨gb14019, 0, none⟩ = some (.int .i64 t14012) ∧ w'.cell? ⟨gb14019, 1, none⟩ = some (.int .i64 t14013) ∧ w'.cell? ⟨gb14019, 2, none⟩ = some (.slice Ao20 t14014.length co20) ∧ w'.cell? ⟨gb14027, 0, none⟩ = some (.int .i64 t14031) ∧ w'.cell? ⟨gb14027, 1, none⟩ = some (.int .i64 t14032) ∧ w'.cell? ⟨gb14027, 2, none⟩ = some (.slice Ao33 t14033.length co33)) (ds := []) #[false, false, false, false] (by kernel_rfl) rfl rfl ⟨(blk_cell BK14019.out 0).trans rfl, (blk_cell BK14019.out 1).trans rfl, (blk_cell BK14019.out 2).trans rfl, (blk_cell BK14027.out 0).trans rfl, (blk_cell BK14027.out 1).trans rfl, (blk_cell BK14027.out 2).trans rfl⟩ (fun hHeld => ?_)
  generalize w34.drew = w35 at HO14009 HO14016 HO14024 HO14035 BK14001 BK14002 BK14019 BK14027 HI14006 HB hHeld ⊢
  refine take_ (i := 0) (N := some 47) (v := ?_) (a' := ?_) #[true, false, false, false] rfl rfl (by kernel_rfl) (fun _ _ _ h => h) (Or.inl ⟨by rfl, ?_⟩) hHeld ?_ ?_
  rotate_left
  ·rintro w' ⟨s0, s1, s2, s3, s4, s5⟩
   go_simp
   with_reducible rfl
  rotate_left
  ·simp only [Act.put, List.setIfInBounds_toArray, List.set_cons_zero, List.set_cons_succ, i64_w, i32_w]
   rfl
  refine take_ (i := 1) (N := some 48) (v := ?_) (a' := ?_) #[true, true, false, false] rfl rfl (by kernel_rfl) (fun _ _ _ h => h) (Or.inl ⟨by rfl, ?_⟩) hHeld ?_ ?_
  rotate_left
  ·rintro w' ⟨s0, s1, s2, s3, s4, s5⟩
   go_simp
   with_reducible rfl
  rotate_left
  ·simp only [Act.put, List.setIfInBounds_toArray, List.set_cons_zero, List.set_cons_succ, i64_w, i32_w]
   rfl
  refine one_ (i := 2) (N := none) #[true, true, true, false] rfl rfl (by kernel_rfl) (by decide) (fun K hK => ?_)
  have hs36 : w35.cell? ⟨gb14001, 0, none⟩ = some (.int .i64 0) := (blk_cell BK14001.out 0).trans rfl
  have hfs36 := blk_frozen BK14001.out 0
  have hns36_1 := NB14002_14001.out
  have hns36_2 := NB14019_14001.out
  have hns36_3 := NB14027_14001.out
  have hms36_1 := NB14001_14002.out
  have hms36_2 := NB14001_14019.out
  have hms36_3 := NB14001_14027.out
  have hs37 : w35.cell? ⟨gb14001, 1, none⟩ = some (.int .i64 0) := (blk_cell BK14001.out 1).trans rfl
  have hfs37 := blk_frozen BK14001.out 1
  have hns37_1 := NB14002_14001.out
  have hns37_2 := NB14019_14001.out
  have hns37_3 := NB14027_14001.out
  have hms37_1 := NB14001_14002.out
  have hms37_2 := NB14001_14019.out
  have hms37_3 := NB14001_14027.out
  have hs38 : w35.cell? ⟨gb14001, 2, none⟩ = some (.slice none 0 0) := (blk_cell BK14001.out 2).trans rfl
  have hfs38 := blk_frozen BK14001.out 2
  have hns38_1 := NB14002_14001.out
  have hns38_2 := NB14019_14001.out
  have hns38_3 := NB14027_14001.out
  have hms38_1 := NB14001_14002.out
  have hms38_2 := NB14001_14019.out
  have hms38_3 := NB14001_14027.out
  refine skip_ (w1 := ?_) (by rfl) rfl ?_ ?_
  rotate_left
  ·go_simp
   rfl
  refine hK.out _ _ ⟨((cell_far (p := ⟨gb14001, _, none⟩) NB14019_14001.out _).trans (((cell_far (p := ⟨gb14001, _, none⟩) NB14019_14001.out _).trans (((cell_far (p := ⟨gb14001, _, none⟩) NB14019_14001.out _).trans (hHeld.1)))))), ((cell_far (p := ⟨gb14001, _, none⟩) NB14019_14001.out _).trans (((cell_far (p := ⟨gb14001, _, none⟩) NB14019_14001.out _).trans (((cell_far (p := ⟨gb14001, _, none⟩) NB14019_14001.out _).trans (hHeld.2.1)))))), ((cell_far (p := ⟨gb14001, _, none⟩) NB14019_14001.out _).trans (((cell_far (p := ⟨gb14001, _, none⟩) NB14019_14001.out _).trans (((cell_far (p := ⟨gb14001, _, none⟩) NB14019_14001.out _).trans (hHeld.2.2.1)))))), ((cell_far (p := ⟨gb14001, _, none⟩) NB14027_14001.out _).trans (((cell_far (p := ⟨gb14001, _, none⟩) NB14027_14001.out _).trans (((cell_far (p := ⟨gb14001, _, none⟩) NB14027_14001.out _).trans (hHeld.2.2.2.1)))))), ((cell_far (p := ⟨gb14001, _, none⟩) NB14027_14001.out _).trans (((cell_far (p := ⟨gb14001, _, none⟩) NB14027_14001.out _).trans (((cell_far (p := ⟨gb14001, _, none⟩) NB14027_14001.out _).trans (hHeld.2.2.2.2.1)))))), ((cell_far (p := ⟨gb14001, _, none⟩) NB14027_14001.out _).trans (((cell_far (p := ⟨gb14001, _, none⟩) NB14027_14001.out _).trans (((cell_far (p := ⟨gb14001, _, none⟩) NB14027_14001.out _).trans (hHeld.2.2.2.2.2))))))⟩ (fun hHeld => ?_)
  clear hK K
  refine one_ (i := 3) (N := none) #[true, true, true, true] rfl rfl (by kernel_rfl) (by decide) (fun K hK => ?_)
  have hs39 : w35.cell? ⟨gb14002, 0, none⟩ = some (.int .i64 0) := (blk_cell BK14002.out 0).trans rfl
  have hfs39 := blk_frozen BK14002.out 0
  have hns39_0 := NB14001_14002.out
  have hns39_2 := NB14019_14002.out
  have hns39_3 := NB14027_14002.out
  have hms39_0 := NB14002_14001.out
  have hms39_2 := NB14002_14019.out
  have hms39_3 := NB14002_14027.out
  have hs40 : w35.cell? ⟨gb14002, 1, none⟩ = some (.int .i64 0) := (blk_cell BK14002.out 1).trans rfl
  have hfs40 := blk_frozen BK14002.out 1
  have hns40_0 := NB14001_14002.out
  have hns40_2 := NB14019_14002.out
  have hns40_3 := NB14027_14002.out
  have hms40_0 := NB14002_14001.out
  have hms40_2 := NB14002_14019.out
  have hms40_3 := NB14002_14027.out
  have hs41 : w35.cell? ⟨gb14002, 2, none⟩ = some (.slice none 0 0) := (blk_cell BK14002.out 2).trans rfl
  have hfs41 := blk_frozen BK14002.out 2
  have hns41_0 := NB14001_14002.out
  have hns41_2 := NB14019_14002.out
  have hns41_3 := NB14027_14002.out
  have hms41_0 := NB14002_14001.out
  have hms41_2 := NB14002_14019.out
  have hms41_3 := NB14002_14027.out
  refine skip_ (w1 := ?_) (by rfl) rfl ?_ ?_
  rotate_left
  ·go_simp
   rfl
  refine hK.out _ _ ⟨((cell_far (p := ⟨gb14002, _, none⟩) NB14019_14002.out _).trans (((cell_far (p := ⟨gb14002, _, none⟩) NB14019_14002.out _).trans (((cell_far (p := ⟨gb14002, _, none⟩) NB14019_14002.out _).trans (hHeld.1)))))), ((cell_far (p := ⟨gb14002, _, none⟩) NB14019_14002.out _).trans (((cell_far (p := ⟨gb14002, _, none⟩) NB14019_14002.out _).trans (((cell_far (p := ⟨gb14002, _, none⟩) NB14019_14002.out _).trans (hHeld.2.1)))))), ((cell_far (p := ⟨gb14002, _, none⟩) NB14019_14002.out _).trans (((cell_far (p := ⟨gb14002, _, none⟩) NB14019_14002.out _).trans (((cell_far (p := ⟨gb14002, _, none⟩) NB14019_14002.out _).trans (hHeld.2.2.1)))))), ((cell_far (p := ⟨gb14002, _, none⟩) NB14027_14002.out _).trans (((cell_far (p := ⟨gb14002, _, none⟩) NB14027_14002.out _).trans (((cell_far (p := ⟨gb14002, _, none⟩) NB14027_14002.out _).trans (hHeld.2.2.2.1)))))), ((cell_far (p := ⟨gb14002, _, none⟩) NB14027_14002.out _).trans (((cell_far (p := ⟨gb14002, _, none⟩) NB14027_14002.out _).trans (((cell_far (p := ⟨gb14002, _, none⟩) NB14027_14002.out _).trans (hHeld.2.2.2.2.1)))))), ((cell_far (p := ⟨gb14002, _, none⟩) NB14027_14002.out _).trans (((cell_far (p := ⟨gb14002, _, none⟩) NB14027_14002.out _).trans (((cell_far (p := ⟨gb14002, _, none⟩) NB14027_14002.out _).trans (hHeld.2.2.2.2.2))))))⟩ (fun hHeld => ?_)
  clear hK K
  refine done_ (by kernel_rfl) ?_
  try go_wp2
  refine bodyPost_ret (results_cc rfl _ _ gb14001 gb14002 25 25 #[.int .i64 t14012, .int .i64 t14013, .slice Ao20 t14014.length co20] #[.int .i64 t14031, .int .i64 t14032, .slice Ao33 t14033.length co33] (0, 0) (0, 0) _ _ rfl (by refine pB ?_; refine blk_far ?_ NB14001_14002.out _; refine pB ?_; refine blk_far ?_ NB14001_14002.out _; refine pB ?_; refine blk_far ?_ NB14001_14002.out _; refine pB ?_; refine blk_put (cs := #[.int .i64 t14012, .int .i64 t14013, .slice none 0 0]) ?_ 2 _ rfl; refine pB ?_; refine blk_put (cs := #[.int .i64 t14012, .int .i64 0, .slice none 0 0]) ?_ 1 _ rfl; refine pB ?_; refine blk_put (cs := #[.int .i64 0, .int .i64 0, .slice none 0 0]) ?_ 0 _ rfl; refine pB ?_; exact BK14001.out) Tryd.underlying25 rfl (by kernel_rfl) rfl (by refine pB ?_; refine blk_put (cs := #[.int .i64 t14031, .int .i64 t14032, .slice none 0 0]) ?_ 2 _ rfl; refine pB ?_; refine blk_put (cs := #[.int .i64 t14031, .int .i64 0, .slice none 0 0]) ?_ 1 _ rfl; refine pB ?_; refine blk_put (cs := #[.int .i64 0, .int .i64 0, .slice none 0 0]) ?_ 0 _ rfl; refine pB ?_; refine blk_far ?_ NB14002_14001.out _; refine pB ?_; refine blk_far ?_ NB14002_14001.out _; refine pB ?_; refine blk_far ?_ NB14002_14001.out _; refine pB ?_; exact BK14002.out) Tryd.underlying25 rfl (by kernel_rfl)) rfl ?_
  exact ⟨_, _, erf, by (with_reducible repeat (first | apply Kd.R_alloc | apply Kd.R_drewN | apply Kd.R_drew)); exact Kd.R_mono (Kd.R_far (p := ⟨gb14002, 2, none⟩) (Kd.R_far (p := ⟨gb14002, 1, none⟩) (Kd.R_far (p := ⟨gb14002, 0, none⟩) (Kd.R_far (p := ⟨gb14001, 2, none⟩) (Kd.R_far (p := ⟨gb14001, 1, none⟩) (Kd.R_far (p := ⟨gb14001, 0, none⟩) (Kd.R_types (Kd.R_types HO14016.out BK14001.out (by decide)) BK14002.out (by decide)) (fun _ hk => hk.1.2) (.int .i64 t14012)) (fun _ hk => hk.1.2) (.int .i64 t14013)) (fun _ hk => hk.1.2) (.slice Ao20 t14014.length co20)) (fun _ hk => hk.2) (.int .i64 t14031)) (fun _ hk => hk.2) (.int .i64 t14032)) (fun _ hk => hk.2) (.slice Ao33 t14033.length co33)) (fun _ hk => hk.1.1.2.2), by (with_reducible repeat (first | apply Kd.R_alloc | apply Kd.R_drewN | apply Kd.R_drew)); exact Kd.R_mono (Kd.R_far (p := ⟨gb14002, 2, none⟩) (Kd.R_far (p := ⟨gb14002, 1, none⟩) (Kd.R_far (p := ⟨gb14002, 0, none⟩) (Kd.R_far (p := ⟨gb14001, 2, none⟩) (Kd.R_far (p := ⟨gb14001, 1, none⟩) (Kd.R_far (p := ⟨gb14001, 0, none⟩) (Kd.R_types (Kd.R_types HO14035.out BK14001.out (by decide)) BK14002.out (by decide)) (fun _ hk => hk.1.2) (.int .i64 t14012)) (fun _ hk => hk.1.2) (.int .i64 t14013)) (fun _ hk => hk.1.2) (.slice Ao20 t14014.length co20)) (fun _ hk => hk.2) (.int .i64 t14031)) (fun _ hk => hk.2) (.int .i64 t14032)) (fun _ hk => hk.2) (.slice Ao33 t14033.length co33)) (fun _ hk => hk.1.1.2.1), hbIsS141⟩
 ·rw [if_neg c7] at H
  have c7b0 : (t14028 == 0) = false := beq_eq_false_iff_ne.mpr c7
  have c7b1 : (t14028 != 0) = true := bne_iff_ne.mpr c7
  by_cases c42 : t14028 = 1
  ·rw [if_pos c42] at H
   have c42b0 : (t14028 == 1) = true := beq_iff_eq.mpr c42
   have c42b1 : (t14028 != 1) = false := bne_eq_false_iff_eq.mpr c42
   clear c42
   replace H := Option.bind_eq_some_iff.mp H
   obtain ⟨⟨t14038, t14039, t14040⟩, A430, H⟩ := H
   replace H : (some (t14012, t14038, t14014, wrap64 (t14020 + t14012), t14021, t14022)) = some (r1, r2, r3, r4, r5, r6) := H
   have A43 := Aside0.mk A430
   clear A430
   simp only [Option.some.injEq, Prod.mk.injEq] at H
   obtain ⟨rfl, rfl, rfl, rfl, rfl, rfl⟩ := H
   go_enter Tryd.func13, Tryd.ntmps13
   try go_wp2_with (first | ((with_reducible refine gate_dst (N := 2) rfl ?_); refine boxE 2 #[.int .i64 0, .int .i64 0, .slice none 0 0] 25 ?_; intro gb14001 hg w44 BK14001 hb; have GW14001 := Aside0.mk (gsz hg hbw : w.heap.size ≤ gb14001); have GE14001 := GW14001; replace HB := Aside0.mk (below_step hbw hb); clear hb hg) | ((with_reducible refine gate_dst (N := 3) rfl ?_); refine boxE 3 #[.int .i64 0, .int .i64 0, .slice none 0 0] 25 ?_; intro gb14002 hg w45 BK14002 hb; have GW14002 := Aside0.mk (gsz hg hbs : w.heap.size ≤ gb14002); have GE14002 := GW14002; have NB14001_14002 := Aside0.mk (nbl BK14001 hg); have NB14002_14001 := Aside0.mk (nbg BK14001 hg); replace BK14001 := Aside0.mk (bkb BK14001 hb); replace HB := Aside0.mk (below_step hbs hb); clear hb hg) | ((with_reducible refine gate_callee (f := 61) rfl ?_); refine goesM (some 9) Tryd.func61 #[.slice A0 l0.length c0] ?_; (with_reducible refine (spec_l01Open.calls _ _ l0 t14003 t14004 t14005 w _ ?side1 ?side2 ?side3 A2.out).mono ?_); (case side1 => exact hbs); (case side2 => exact HR0.out); (case side3 => exact HC0.out); rintro e w46 ⟨g14006, rfl, hi, hb, hb2⟩; refine ⟨_, rfl, ?_⟩; have HI14006 := Aside0.mk (hi); have NB14006_14001 := Aside0.mk (IsS141.ne_blk hi (bkb BK14001 hb2) (by decide)); have NB14001_14006 := Aside0.mk (Ne.symm (IsS141.ne_blk hi (bkb BK14001 hb2) (by decide))); have NB14006_14002 := Aside0.mk (IsS141.ne_blk hi (bkb BK14002 hb2) (by decide)); have NB14002_14006 := Aside0.mk (Ne.symm (IsS141.ne_blk hi (bkb BK14002 hb2) (by decide))); replace BK14001 := Aside0.mk (bkb BK14001 hb2); replace BK14002 := Aside0.mk (bkb BK14002 hb2); replace HB := Aside0.mk (hb); (try clear hb); (try clear hb2); (try clear hk); (try clear hi)) | ((with_reducible refine gate_callee (f := 62) rfl ?_); refine goesM (some 11) Tryd.func62 #[.pointer (some ⟨g14006, 0, none⟩), .int .i64 40] ?_; (with_reducible refine (spec_l01Cur_text.calls k g14006 t14003 t14004 t14005 40 t14007 t14010 t14011 w _ ?side1 ?side2 A3.out).mono ?_); (case side1 => exact pIIsS141 HI14006); (case side2 => exact hbIsS141); rintro e w47 ⟨v14008, rfl, ho0, hi, hb, hk⟩; refine ⟨_, rfl, ?_⟩; have HO14009 := Aside0.mk (Kd.R_lower ho0 (below_size hbIsS141)); replace BK14001 := Aside0.mk (bkk hk BK14001 NB14001_14006.out); replace BK14002 := Aside0.mk (bkk hk BK14002 NB14002_14006.out); replace HB := Aside0.mk (hb); replace HI14006 := Aside0.mk (hi); (try clear hb); (try clear hb2); (try clear hk); (try clear hi); (try clear ho0); obtain ⟨Ao48, co48, eo48⟩ := Kd.R_slice HO14009.out; subst eo48) | ((with_reducible refine gate_callee (f := 63) rfl ?_); refine goesM (some 14) Tryd.func63 #[.pointer (some ⟨g14006, 0, none⟩), .slice Ao48 t14007.length co48] ?_; (with_reducible refine (spec_l01Cur_edit.calls k g14006 t14003 t14010 t14011 _ _ t14007 t14012 t14013 t14014 t14017 t14018 w _ ?side1 ?side2 ?side3 ?side4 ?side5 A4.out).mono ?_); (case side1 => exact pIIsS141 HI14006); (case side2 => exact hbIsS141); (case side3 => exact cpl (Kd.R_reads' HO14009.out).2.2); (case side4 => exact (Kd.R_reads' HO14009.out).2.1); (case side5 => exact far_slice (IsS141.own_ne HI14006.out HO14009.out (by decide))); rintro e w49 ⟨v14015, rfl, ho0, hi, hb, hk⟩; refine ⟨_, rfl, ?_⟩; have HO14016 := Aside0.mk (Kd.R_lower (Kd.R_new' ho0 (Kd.R_lt (hrnR HO14009))) (below_size hbIsS141)); replace BK14001 := Aside0.mk (bkk hk BK14001 NB14001_14006.out); replace BK14002 := Aside0.mk (bkk hk BK14002 NB14002_14006.out); replace HO14009 := Aside0.mk (Kd.R_mono (Kd.R_told (Kd.R_oldK (IsS141.apart (show IsS141 w _ g14006 t14003 t14010 t14011 from pIIsS141 HI14006) (hrnR HO14009) (by decide)) hk) (Kd.R_base ho0)) (fun _ h_ => h_.1)); replace HB := Aside0.mk (hb); replace HI14006 := Aside0.mk (hi); (try clear hb); (try clear hb2); (try clear hk); (try clear hi); (try clear ho0)) | ((with_reducible refine gate_dst (N := 6) rfl ?_); refine boxE 6 #[.int .i64 0, .int .i64 0, .slice none 0 0] 25 ?_; intro gb14019 hg w50 BK14019 hb; have GW14019 := Aside0.mk (gsz hg hbIsS141 : w.heap.size ≤ gb14019); have GE14019 := GW14019; have NB14001_14019 := Aside0.mk (nbl BK14001 hg); have NB14019_14001 := Aside0.mk (nbg BK14001 hg); have NB14002_14019 := Aside0.mk (nbl BK14002 hg); have NB14019_14002 := Aside0.mk (nbg BK14002 hg); have NB14006_14019 := Aside0.mk ((by rw [hg]; exact Nat.ne_of_lt (IsS141.lt (show IsS141 w _ g14006 t14003 t14017 t14018 from pIIsS141 HI14006)) : g14006 ≠ gb14019)); have NB14019_14006 := Aside0.mk ((by rw [hg]; exact Nat.ne_of_gt (IsS141.lt (show IsS141 w _ g14006 t14003 t14017 t14018 from pIIsS141 HI14006)) : gb14019 ≠ g14006)); replace HO14009 := Aside0.mk (Kd.R_below (hrnR HO14009) hb); replace HO14016 := Aside0.mk (Kd.R_below (hrnR HO14016) hb); replace BK14001 := Aside0.mk (bkb BK14001 hb); replace BK14002 := Aside0.mk (bkb BK14002 hb); replace HB := Aside0.mk (below_step hbIsS141 hb); replace HI14006 := Aside0.mk (IsS141.below (pIIsS141 HI14006) hb); clear hb hg; have hnb51 := NB14019_14001.out; have hnc51 := NB14001_14019.out; have hnb52 := NB14019_14002.out; have hnc52 := NB14002_14019.out; have hnb53 := NB14019_14006.out; have hnc53 := NB14006_14019.out; have hcz54_0 : w50.cell? ⟨gb14019, 0, none⟩ = some (.int .i64 0) := (blk_cell BK14019.out 0).trans rfl; have hcz54_1 : w50.cell? ⟨gb14019, 1, none⟩ = some (.int .i64 0) := (blk_cell BK14019.out 1).trans rfl; have hcz54_2 : w50.cell? ⟨gb14019, 2, none⟩ = some (.slice none 0 0) := (blk_cell BK14019.out 2).trans rfl; have hfz54_0 := blk_frozen BK14019.out 0; have hfz54_1 := blk_frozen BK14019.out 1; have hfz54_2 := blk_frozen BK14019.out 2; obtain ⟨Ao55, co55, eo55⟩ := Kd.R_slice HO14016.out; subst eo55) | ((with_reducible refine gate_callee (f := 63) rfl ?_); refine goesM (some 18) Tryd.func63 #[.pointer (some ⟨g14006, 0, none⟩), .slice Ao55 t14014.length co55] ?_; (with_reducible refine (spec_l01Cur_edit.calls k g14006 t14003 t14017 t14018 _ _ t14014 t14020 t14021 t14022 t14025 t14026 w _ ?side1 ?side2 ?side3 ?side4 ?side5 A5.out).mono ?_); (case side1 => exact pIIsS141 HI14006); (case side2 => exact hbIsS141); (case side3 => refine (Kd.R_reads' (e := 5) (base := w.heap.size) (ok := fun k_ => (True ∧ some k_ ≠ (.slice Ao48 t14007.length co48 : Value).ownBlock)) (n := t14014.length) (c := co55) ?_).2.2; exact (by (with_reducible repeat (first | apply Kd.R_alloc | apply Kd.R_drewN | apply Kd.R_drew)); exact (Kd.R_mono (Kd.R_far (p := ⟨gb14019, 2, none⟩) (Kd.R_far (p := ⟨gb14019, 1, none⟩) (Kd.R_far (p := ⟨gb14019, 0, none⟩) (Kd.R_types HO14016.out BK14019.out (by decide)) (fun _ hk => hk.2) (.int .i64 t14012)) (fun _ hk => hk.2) (.int .i64 t14013)) (fun _ hk => hk.2) (.slice Ao55 t14014.length co55)) (fun _ h_ => h_.1)))); (case side4 => exact (Kd.R_reads' HO14016.out).2.1); (case side5 => exact far_slice (IsS141.own_ne HI14006.out HO14016.out (by decide))); rintro e w56 ⟨v14023, rfl, ho0, hi, hb, hk⟩; refine ⟨_, rfl, ?_⟩; have HO14024 := Aside0.mk (Kd.R_lower (Kd.R_new' (Kd.R_new' ho0 (Kd.R_lt (by (with_reducible repeat (first | apply Kd.R_alloc | apply Kd.R_drewN | apply Kd.R_drew)); exact (Kd.R_mono (Kd.R_far (p := ⟨gb14019, 2, none⟩) (Kd.R_far (p := ⟨gb14019, 1, none⟩) (Kd.R_far (p := ⟨gb14019, 0, none⟩) (Kd.R_types HO14009.out BK14019.out (by decide)) (fun _ hk => hk.2) (.int .i64 t14012)) (fun _ hk => hk.2) (.int .i64 t14013)) (fun _ hk => hk.2) (.slice Ao55 t14014.length co55)) (fun _ h_ => h_.1))))) (Kd.R_lt (by (with_reducible repeat (first | apply Kd.R_alloc | apply Kd.R_drewN | apply Kd.R_drew)); exact (Kd.R_mono (Kd.R_far (p := ⟨gb14019, 2, none⟩) (Kd.R_far (p := ⟨gb14019, 1, none⟩) (Kd.R_far (p := ⟨gb14019, 0, none⟩) (Kd.R_types HO14016.out BK14019.out (by decide)) (fun _ hk => hk.2) (.int .i64 t14012)) (fun _ hk => hk.2) (.int .i64 t14013)) (fun _ hk => hk.2) (.slice Ao55 t14014.length co55)) (fun _ h_ => h_.1))))) (below_size hbIsS141)); replace BK14001 := Aside0.mk (KeepBut.blk hk (g' := gb14001) (o := .cells #[.int .i64 0, .int .i64 0, .slice none 0 0] 25 (0, 0)) (by refine pB ?_; refine blk_far ?_ NB14001_14019.out _; refine pB ?_; refine blk_far ?_ NB14001_14019.out _; refine pB ?_; refine blk_far ?_ NB14001_14019.out _; refine pB ?_; exact BK14001.out) NB14001_14006.out (by simp)); replace BK14002 := Aside0.mk (KeepBut.blk hk (g' := gb14002) (o := .cells #[.int .i64 0, .int .i64 0, .slice none 0 0] 25 (0, 0)) (by refine pB ?_; refine blk_far ?_ NB14002_14019.out _; refine pB ?_; refine blk_far ?_ NB14002_14019.out _; refine pB ?_; refine blk_far ?_ NB14002_14019.out _; refine pB ?_; exact BK14002.out) NB14002_14006.out (by simp)); replace HO14009 := Aside0.mk (Kd.R_mono (Kd.R_told (Kd.R_oldK (IsS141.apart (show IsS141 w _ g14006 t14003 t14017 t14018 from pIIsS141 HI14006) (by (with_reducible repeat (first | apply Kd.R_alloc | apply Kd.R_drewN | apply Kd.R_drew)); exact (Kd.R_mono (Kd.R_far (p := ⟨gb14019, 2, none⟩) (Kd.R_far (p := ⟨gb14019, 1, none⟩) (Kd.R_far (p := ⟨gb14019, 0, none⟩) (Kd.R_types HO14009.out BK14019.out (by decide)) (fun _ hk => hk.2) (.int .i64 t14012)) (fun _ hk => hk.2) (.int .i64 t14013)) (fun _ hk => hk.2) (.slice Ao55 t14014.length co55)) (fun _ h_ => h_.1))) (by decide)) hk) (Kd.R_base ho0)) (fun _ h_ => h_.1)); replace HO14016 := Aside0.mk (Kd.R_mono (Kd.R_told (Kd.R_oldK (IsS141.apart (show IsS141 w _ g14006 t14003 t14017 t14018 from pIIsS141 HI14006) (by (with_reducible repeat (first | apply Kd.R_alloc | apply Kd.R_drewN | apply Kd.R_drew)); exact (Kd.R_mono (Kd.R_far (p := ⟨gb14019, 2, none⟩) (Kd.R_far (p := ⟨gb14019, 1, none⟩) (Kd.R_far (p := ⟨gb14019, 0, none⟩) (Kd.R_types HO14016.out BK14019.out (by decide)) (fun _ hk => hk.2) (.int .i64 t14012)) (fun _ hk => hk.2) (.int .i64 t14013)) (fun _ hk => hk.2) (.slice Ao55 t14014.length co55)) (fun _ h_ => h_.1))) (by decide)) hk) (Kd.R_base ho0)) (fun _ h_ => h_.1)); replace BK14019 := Aside0.mk (KeepBut.blk hk (g' := gb14019) (o := .cells #[.int .i64 t14012, .int .i64 t14013, .slice Ao55 t14014.length co55] 25 (0, 0)) (by refine pB ?_; refine blk_put (cs := #[.int .i64 t14012, .int .i64 t14013, .slice none 0 0]) ?_ 2 _ rfl; refine pB ?_; refine blk_put (cs := #[.int .i64 t14012, .int .i64 0, .slice none 0 0]) ?_ 1 _ rfl; refine pB ?_; refine blk_put (cs := #[.int .i64 0, .int .i64 0, .slice none 0 0]) ?_ 0 _ rfl; refine pB ?_; exact BK14019.out) NB14019_14006.out (by simp)); replace HB := Aside0.mk (hb); replace HI14006 := Aside0.mk (hi); (try clear hb); (try clear hb2); (try clear hk); (try clear hi); (try clear ho0)) | ((with_reducible refine gate_dst (N := 7) rfl ?_); refine boxE 7 #[.int .i64 0, .int .i64 0, .slice none 0 0] 25 ?_; intro gb14027 hg w57 BK14027 hb; have GW14027 := Aside0.mk (gsz hg hbIsS141 : w.heap.size ≤ gb14027); have GE14027 := GW14027; have NB14001_14027 := Aside0.mk (nbl BK14001 hg); have NB14027_14001 := Aside0.mk (nbg BK14001 hg); have NB14002_14027 := Aside0.mk (nbl BK14002 hg); have NB14027_14002 := Aside0.mk (nbg BK14002 hg); have NB14019_14027 := Aside0.mk (nbl BK14019 hg); have NB14027_14019 := Aside0.mk (nbg BK14019 hg); have NB14006_14027 := Aside0.mk ((by rw [hg]; exact Nat.ne_of_lt (IsS141.lt (show IsS141 w _ g14006 t14003 t14025 t14026 from pIIsS141 HI14006)) : g14006 ≠ gb14027)); have NB14027_14006 := Aside0.mk ((by rw [hg]; exact Nat.ne_of_gt (IsS141.lt (show IsS141 w _ g14006 t14003 t14025 t14026 from pIIsS141 HI14006)) : gb14027 ≠ g14006)); replace HO14009 := Aside0.mk (Kd.R_below (hrnR HO14009) hb); replace HO14016 := Aside0.mk (Kd.R_below (hrnR HO14016) hb); replace HO14024 := Aside0.mk (Kd.R_below (hrnR HO14024) hb); replace BK14001 := Aside0.mk (bkb BK14001 hb); replace BK14002 := Aside0.mk (bkb BK14002 hb); replace BK14019 := Aside0.mk (bkb BK14019 hb); replace HB := Aside0.mk (below_step hbIsS141 hb); replace HI14006 := Aside0.mk (IsS141.below (pIIsS141 HI14006) hb); clear hb hg; have hnb58 := NB14027_14001.out; have hnc58 := NB14001_14027.out; have hnb59 := NB14027_14002.out; have hnc59 := NB14002_14027.out; have hnb60 := NB14027_14019.out; have hnc60 := NB14019_14027.out; have hnb61 := NB14027_14006.out; have hnc61 := NB14006_14027.out; have hcz62_0 : w57.cell? ⟨gb14027, 0, none⟩ = some (.int .i64 0) := (blk_cell BK14027.out 0).trans rfl; have hcz62_1 : w57.cell? ⟨gb14027, 1, none⟩ = some (.int .i64 0) := (blk_cell BK14027.out 1).trans rfl; have hcz62_2 : w57.cell? ⟨gb14027, 2, none⟩ = some (.slice none 0 0) := (blk_cell BK14027.out 2).trans rfl; have hfz62_0 := blk_frozen BK14027.out 0; have hfz62_1 := blk_frozen BK14027.out 1; have hfz62_2 := blk_frozen BK14027.out 2; obtain ⟨Ao63, co63, eo63⟩ := Kd.R_slice HO14024.out; subst eo63; have hcz64_0 : w57.cell? ⟨gb14019, 0, none⟩ = some (.int .i64 t14012) := (blk_cell BK14019.out 0).trans rfl; have hcz64_1 : w57.cell? ⟨gb14019, 1, none⟩ = some (.int .i64 t14013) := (blk_cell BK14019.out 1).trans rfl; have hcz64_2 : w57.cell? ⟨gb14019, 2, none⟩ = some (.slice Ao55 t14014.length co55) := (blk_cell BK14019.out 2).trans rfl; have hfz64_0 := blk_frozen BK14019.out 0; have hfz64_1 := blk_frozen BK14019.out 1; have hfz64_2 := blk_frozen BK14019.out 2) | ((with_reducible refine gate_callee (f := 64) rfl ?_); refine goesM (some 26) Tryd.func64 #[.pointer (some ⟨g14006, 0, none⟩), .int .i64 9] ?_; (with_reducible refine (spec_l01Cur_pick.calls g14006 t14003 t14025 t14026 9 t14028 t14029 t14030 w _ ?side1 ?side2 A6.out).mono ?_); (case side1 => exact pIIsS141 HI14006); (case side2 => exact hbIsS141); rintro e w65 ⟨rfl, hi, hb, hk⟩; refine ⟨_, rfl, ?_⟩; replace BK14001 := Aside0.mk (KeepBut.blk hk (g' := gb14001) (o := .cells #[.int .i64 0, .int .i64 0, .slice none 0 0] 25 (0, 0)) (by refine pB ?_; refine blk_far ?_ NB14001_14027.out _; refine pB ?_; refine blk_far ?_ NB14001_14027.out _; refine pB ?_; refine blk_far ?_ NB14001_14027.out _; refine pB ?_; refine blk_far ?_ NB14001_14027.out _; refine pB ?_; exact BK14001.out) NB14001_14006.out (by simp)); replace BK14002 := Aside0.mk (KeepBut.blk hk (g' := gb14002) (o := .cells #[.int .i64 0, .int .i64 0, .slice none 0 0] 25 (0, 0)) (by refine pB ?_; refine blk_far ?_ NB14002_14027.out _; refine pB ?_; refine blk_far ?_ NB14002_14027.out _; refine pB ?_; refine blk_far ?_ NB14002_14027.out _; refine pB ?_; refine blk_far ?_ NB14002_14027.out _; refine pB ?_; exact BK14002.out) NB14002_14006.out (by simp)); replace HO14009 := Aside0.mk (Kd.R_mono (Kd.R_keep (IsS141.apart (show IsS141 w _ g14006 t14003 t14025 t14026 from pIIsS141 HI14006) (by (with_reducible repeat (first | apply Kd.R_alloc | apply Kd.R_drewN | apply Kd.R_drew)); exact (Kd.R_mono (Kd.R_far (p := ⟨gb14027, 0, none⟩) (Kd.R_far (p := ⟨gb14027, 2, none⟩) (Kd.R_far (p := ⟨gb14027, 1, none⟩) (Kd.R_far (p := ⟨gb14027, 0, none⟩) (Kd.R_types HO14009.out BK14027.out (by decide)) (fun _ hk => hk.2) (.int .i64 t14020)) (fun _ hk => hk.2) (.int .i64 t14021)) (fun _ hk => hk.2) (.slice Ao63 t14022.length co63)) (fun _ hk => hk.2) (.int .i64 (wrap64 (t14020 + t14012)))) (fun _ h_ => h_.1))) (by decide)) hk (fun _ h => h.2)) (fun _ h => h.1)); replace HO14016 := Aside0.mk (Kd.R_mono (Kd.R_keep (IsS141.apart (show IsS141 w _ g14006 t14003 t14025 t14026 from pIIsS141 HI14006) (by (with_reducible repeat (first | apply Kd.R_alloc | apply Kd.R_drewN | apply Kd.R_drew)); exact (Kd.R_mono (Kd.R_far (p := ⟨gb14027, 0, none⟩) (Kd.R_far (p := ⟨gb14027, 2, none⟩) (Kd.R_far (p := ⟨gb14027, 1, none⟩) (Kd.R_far (p := ⟨gb14027, 0, none⟩) (Kd.R_types HO14016.out BK14027.out (by decide)) (fun _ hk => hk.2) (.int .i64 t14020)) (fun _ hk => hk.2) (.int .i64 t14021)) (fun _ hk => hk.2) (.slice Ao63 t14022.length co63)) (fun _ hk => hk.2) (.int .i64 (wrap64 (t14020 + t14012)))) (fun _ h_ => h_.1))) (by decide)) hk (fun _ h => h.2)) (fun _ h => h.1)); replace BK14019 := Aside0.mk (KeepBut.blk hk (g' := gb14019) (o := .cells #[.int .i64 t14012, .int .i64 t14013, .slice Ao55 t14014.length co55] 25 (0, 0)) (by refine pB ?_; refine blk_far ?_ NB14019_14027.out _; refine pB ?_; refine blk_far ?_ NB14019_14027.out _; refine pB ?_; refine blk_far ?_ NB14019_14027.out _; refine pB ?_; refine blk_far ?_ NB14019_14027.out _; refine pB ?_; exact BK14019.out) NB14019_14006.out (by simp)); replace HO14024 := Aside0.mk (Kd.R_mono (Kd.R_keep (IsS141.apart (show IsS141 w _ g14006 t14003 t14025 t14026 from pIIsS141 HI14006) (by (with_reducible repeat (first | apply Kd.R_alloc | apply Kd.R_drewN | apply Kd.R_drew)); exact (Kd.R_mono (Kd.R_far (p := ⟨gb14027, 0, none⟩) (Kd.R_far (p := ⟨gb14027, 2, none⟩) (Kd.R_far (p := ⟨gb14027, 1, none⟩) (Kd.R_far (p := ⟨gb14027, 0, none⟩) (Kd.R_types HO14024.out BK14027.out (by decide)) (fun _ hk => hk.2) (.int .i64 t14020)) (fun _ hk => hk.2) (.int .i64 t14021)) (fun _ hk => hk.2) (.slice Ao63 t14022.length co63)) (fun _ hk => hk.2) (.int .i64 (wrap64 (t14020 + t14012)))) (fun _ h_ => h_.1))) (by decide)) hk (fun _ h => h.2)) (fun _ h => h.1)); replace BK14027 := Aside0.mk (KeepBut.blk hk (g' := gb14027) (o := .cells #[.int .i64 (wrap64 (t14020 + t14012)), .int .i64 t14021, .slice Ao63 t14022.length co63] 25 (0, 0)) (by refine pB ?_; refine blk_put (cs := #[.int .i64 t14020, .int .i64 t14021, .slice Ao63 t14022.length co63]) ?_ 0 _ rfl; refine pB ?_; refine blk_put (cs := #[.int .i64 t14020, .int .i64 t14021, .slice none 0 0]) ?_ 2 _ rfl; refine pB ?_; refine blk_put (cs := #[.int .i64 t14020, .int .i64 0, .slice none 0 0]) ?_ 1 _ rfl; refine pB ?_; refine blk_put (cs := #[.int .i64 0, .int .i64 0, .slice none 0 0]) ?_ 0 _ rfl; refine pB ?_; exact BK14027.out) NB14027_14006.out (by simp)); replace HB := Aside0.mk (hb); replace HI14006 := Aside0.mk (hi); (try clear hb); (try clear hb2); (try clear hk); (try clear hi)) | ((with_reducible refine gate_callee (f := 65) rfl ?_); refine goesM (some 35) Tryd.func65 #[.pointer (some ⟨g14006, 0, none⟩)] ?_; (with_reducible refine (spec_l01Cur_raw.calls g14006 t14003 t14029 t14030 t14038 t14039 t14040 w _ ?side1 ?side2 A43.out).mono ?_); (case side1 => exact pIIsS141 HI14006); (case side2 => exact hbIsS141); rintro e w66 ⟨rfl, hi, hb, hk⟩; refine ⟨_, rfl, ?_⟩; replace BK14001 := Aside0.mk (bkk hk BK14001 NB14001_14006.out); replace BK14002 := Aside0.mk (bkk hk BK14002 NB14002_14006.out); replace HO14009 := Aside0.mk (Kd.R_mono (Kd.R_keep (IsS141.apart (show IsS141 w _ g14006 t14003 t14029 t14030 from pIIsS141 HI14006) (hrnR HO14009) (by decide)) hk (fun _ h => h.2)) (fun _ h => h.1)); replace HO14016 := Aside0.mk (Kd.R_mono (Kd.R_keep (IsS141.apart (show IsS141 w _ g14006 t14003 t14029 t14030 from pIIsS141 HI14006) (hrnR HO14016) (by decide)) hk (fun _ h => h.2)) (fun _ h => h.1)); replace BK14019 := Aside0.mk (bkk hk BK14019 NB14019_14006.out); replace HO14024 := Aside0.mk (Kd.R_mono (Kd.R_keep (IsS141.apart (show IsS141 w _ g14006 t14003 t14029 t14030 from pIIsS141 HI14006) (hrnR HO14024) (by decide)) hk (fun _ h => h.2)) (fun _ h => h.1)); replace BK14027 := Aside0.mk (bkk hk BK14027 NB14027_14006.out); replace HB := Aside0.mk (hb); replace HI14006 := Aside0.mk (hi); (try clear hb); (try clear hb2); (try clear hk); (try clear hi); have hcz67_0 : w66.cell? ⟨gb14019, 0, none⟩ = some (.int .i64 t14012) := (blk_cell BK14019.out 0).trans rfl; have hcz67_1 : w66.cell? ⟨gb14019, 1, none⟩ = some (.int .i64 t14013) := (blk_cell BK14019.out 1).trans rfl; have hcz67_2 : w66.cell? ⟨gb14019, 2, none⟩ = some (.slice Ao55 t14014.length co55) := (blk_cell BK14019.out 2).trans rfl; have hfz67_0 := blk_frozen BK14019.out 0; have hfz67_1 := blk_frozen BK14019.out 1; have hfz67_2 := blk_frozen BK14019.out 2))
   have n0_ : Aside0 (Kd.R (Kd.int .u8) 5 (w66.setCell ⟨gb14019, 1, none⟩ (.int .i64 t14038)) w.heap.size (fun k_ => some k_ ≠ (.slice Ao55 t14014.length co55 : Value).ownBlock ∧ some k_ ≠ (.slice Ao63 t14022.length co63 : Value).ownBlock) (.slice Ao48 t14007.length co48) t14007) := ⟨by (with_reducible repeat (first | apply Kd.R_alloc | apply Kd.R_drewN | apply Kd.R_drew)); exact Kd.R_mono (Kd.R_far (p := ⟨gb14019, 1, none⟩) (Kd.R_types HO14009.out BK14019.out (by decide)) (fun _ hk => hk.2) (.int .i64 t14038)) (fun _ hk => ⟨hk.1.1.2, hk.1.2⟩)⟩
   have n1_ : Aside0 (Kd.R (Kd.int .u8) 5 (w66.setCell ⟨gb14019, 1, none⟩ (.int .i64 t14038)) w.heap.size (fun k_ => some k_ ≠ (.slice Ao48 t14007.length co48 : Value).ownBlock ∧ some k_ ≠ (.slice Ao63 t14022.length co63 : Value).ownBlock) (.slice Ao55 t14014.length co55) t14014) := ⟨by (with_reducible repeat (first | apply Kd.R_alloc | apply Kd.R_drewN | apply Kd.R_drew)); exact Kd.R_mono (Kd.R_far (p := ⟨gb14019, 1, none⟩) (Kd.R_types HO14016.out BK14019.out (by decide)) (fun _ hk => hk.2) (.int .i64 t14038)) (fun _ hk => ⟨hk.1.1.2, hk.1.2⟩)⟩
   have n2_ : Aside0 (Kd.R (Kd.int .u8) 5 (w66.setCell ⟨gb14019, 1, none⟩ (.int .i64 t14038)) w.heap.size (fun k_ => some k_ ≠ (.slice Ao48 t14007.length co48 : Value).ownBlock ∧ some k_ ≠ (.slice Ao55 t14014.length co55 : Value).ownBlock) (.slice Ao63 t14022.length co63) t14022) := ⟨by (with_reducible repeat (first | apply Kd.R_alloc | apply Kd.R_drewN | apply Kd.R_drew)); exact Kd.R_mono (Kd.R_far (p := ⟨gb14019, 1, none⟩) (Kd.R_types HO14024.out BK14019.out (by decide)) (fun _ hk => hk.2) (.int .i64 t14038)) (fun _ hk => ⟨hk.1.1.2, hk.1.2⟩)⟩
   have n3_ : Aside0 ((w66.setCell ⟨gb14019, 1, none⟩ (.int .i64 t14038)).heap[gb14001]? = some (.cells #[.int .i64 0, .int .i64 0, .slice none 0 0] 25 (0, 0))) := ⟨by refine pB ?_; refine blk_far ?_ NB14001_14019.out _; refine pB ?_; exact BK14001.out⟩
   have n4_ : Aside0 ((w66.setCell ⟨gb14019, 1, none⟩ (.int .i64 t14038)).heap[gb14002]? = some (.cells #[.int .i64 0, .int .i64 0, .slice none 0 0] 25 (0, 0))) := ⟨by refine pB ?_; refine blk_far ?_ NB14002_14019.out _; refine pB ?_; exact BK14002.out⟩
   have n5_ : Aside0 ((w66.setCell ⟨gb14019, 1, none⟩ (.int .i64 t14038)).heap[gb14019]? = some (.cells #[.int .i64 t14012, .int .i64 t14038, .slice Ao55 t14014.length co55] 25 (0, 0))) := ⟨by refine pB ?_; refine blk_put (cs := #[.int .i64 t14012, .int .i64 t14013, .slice Ao55 t14014.length co55]) ?_ 1 _ rfl; refine pB ?_; exact BK14019.out⟩
   have n6_ : Aside0 ((w66.setCell ⟨gb14019, 1, none⟩ (.int .i64 t14038)).heap[gb14027]? = some (.cells #[.int .i64 (wrap64 (t14020 + t14012)), .int .i64 t14021, .slice Ao63 t14022.length co63] 25 (0, 0))) := ⟨by refine pB ?_; refine blk_far ?_ NB14027_14019.out _; refine pB ?_; exact BK14027.out⟩
   have n7_ : Aside0 (IsS141 w (w66.setCell ⟨gb14019, 1, none⟩ (.int .i64 t14038)) g14006 t14003 t14039 t14040) := ⟨pIIsS141 HI14006⟩
   have n8_ : Aside0 (Below w.heap.size w (w66.setCell ⟨gb14019, 1, none⟩ (.int .i64 t14038))) := ⟨hbIsS141⟩
   (try clear HO14009)
   (try clear HO14016)
   (try clear HO14024)
   (try clear BK14001)
   (try clear BK14002)
   (try clear BK14019)
   (try clear BK14027)
   (try clear HI14006)
   (try clear HB)
   generalize (w66.setCell ⟨gb14019, 1, none⟩ (.int .i64 t14038)) = w68 at n0_ n1_ n2_ n3_ n4_ n5_ n6_ n7_ n8_ ⊢
   have HO14009 := n0_
   have HO14016 := n1_
   have HO14024 := n2_
   have BK14001 := n3_
   have BK14002 := n4_
   have BK14019 := n5_
   have BK14027 := n6_
   have HI14006 := n7_
   have HB := n8_
   clear n0_ n1_ n2_ n3_ n4_ n5_ n6_ n7_ n8_
   replace HO14009 := Aside0.mk (Kd.R_drew HO14009.out)
   replace HO14016 := Aside0.mk (Kd.R_drew HO14016.out)
   replace HO14024 := Aside0.mk (Kd.R_drew HO14024.out)
   replace BK14001 := Aside0.mk (blk_drew BK14001.out)
   replace BK14002 := Aside0.mk (blk_drew BK14002.out)
   replace BK14019 := Aside0.mk (blk_drew BK14019.out)
   replace BK14027 := Aside0.mk (blk_drew BK14027.out)
   replace HI14006 := Aside0.mk (IsS141.drew HI14006.out)
   replace HB := Aside0.mk (below_drew1 HB.out)
   refine start_ (n := 4) (S := fun w' => w'.cell? ⟨gb14019, 0, none⟩ = some (.int .i64 t14012) ∧ w'.cell? ⟨gb14019, 1, none⟩ = some (.int .i64 t14038) ∧ w'.cell? ⟨gb14019, 2, none⟩ = some (.slice Ao55 t14014.length co55) ∧ w'.cell? ⟨gb14027, 0, none⟩ = some (.int .i64 (wrap64 (t14020 + t14012))) ∧ w'.cell? ⟨gb14027, 1, none⟩ = some (.int .i64 t14021) ∧ w'.cell? ⟨gb14027, 2, none⟩ = some (.slice Ao63 t14022.length co63)) (ds := []) #[false, false, false, false] (by kernel_rfl) rfl rfl ⟨(blk_cell BK14019.out 0).trans rfl, (blk_cell BK14019.out 1).trans rfl, (blk_cell BK14019.out 2).trans rfl, (blk_cell BK14027.out 0).trans rfl, (blk_cell BK14027.out 1).trans rfl, (blk_cell BK14027.out 2).trans rfl⟩ (fun hHeld => ?_)
   generalize w68.drew = w69 at HO14009 HO14016 HO14024 BK14001 BK14002 BK14019 BK14027 HI14006 HB hHeld ⊢
   refine take_ (i := 0) (N := some 47) (v := ?_) (a' := ?_) #[true, false, false, false] rfl rfl (by kernel_rfl) (fun _ _ _ h => h) (Or.inl ⟨by rfl, ?_⟩) hHeld ?_ ?_
   rotate_left
   ·rintro w' ⟨s0, s1, s2, s3, s4, s5⟩
    go_simp
    with_reducible rfl
   rotate_left
   ·simp only [Act.put, List.setIfInBounds_toArray, List.set_cons_zero, List.set_cons_succ, i64_w, i32_w]
    rfl
   refine take_ (i := 1) (N := some 48) (v := ?_) (a' := ?_) #[true, true, false, false] rfl rfl (by kernel_rfl) (fun _ _ _ h => h) (Or.inl ⟨by rfl, ?_⟩) hHeld ?_ ?_
   rotate_left
   ·rintro w' ⟨s0, s1, s2, s3, s4, s5⟩
    go_simp
    with_reducible rfl
   rotate_left
   ·simp only [Act.put, List.setIfInBounds_toArray, List.set_cons_zero, List.set_cons_succ, i64_w, i32_w]
    rfl
   refine one_ (i := 2) (N := none) #[true, true, true, false] rfl rfl (by kernel_rfl) (by decide) (fun K hK => ?_)
   have hs70 : w69.cell? ⟨gb14001, 0, none⟩ = some (.int .i64 0) := (blk_cell BK14001.out 0).trans rfl
   have hfs70 := blk_frozen BK14001.out 0
   have hns70_1 := NB14002_14001.out
   have hns70_2 := NB14019_14001.out
   have hns70_3 := NB14027_14001.out
   have hms70_1 := NB14001_14002.out
   have hms70_2 := NB14001_14019.out
   have hms70_3 := NB14001_14027.out
   have hs71 : w69.cell? ⟨gb14001, 1, none⟩ = some (.int .i64 0) := (blk_cell BK14001.out 1).trans rfl
   have hfs71 := blk_frozen BK14001.out 1
   have hns71_1 := NB14002_14001.out
   have hns71_2 := NB14019_14001.out
   have hns71_3 := NB14027_14001.out
   have hms71_1 := NB14001_14002.out
   have hms71_2 := NB14001_14019.out
   have hms71_3 := NB14001_14027.out
   have hs72 : w69.cell? ⟨gb14001, 2, none⟩ = some (.slice none 0 0) := (blk_cell BK14001.out 2).trans rfl
   have hfs72 := blk_frozen BK14001.out 2
   have hns72_1 := NB14002_14001.out
   have hns72_2 := NB14019_14001.out
   have hns72_3 := NB14027_14001.out
   have hms72_1 := NB14001_14002.out
   have hms72_2 := NB14001_14019.out
   have hms72_3 := NB14001_14027.out
   refine skip_ (w1 := ?_) (by rfl) rfl ?_ ?_
   rotate_left
   ·go_simp
    rfl
   refine hK.out _ _ ⟨((cell_far (p := ⟨gb14001, _, none⟩) NB14019_14001.out _).trans (((cell_far (p := ⟨gb14001, _, none⟩) NB14019_14001.out _).trans (((cell_far (p := ⟨gb14001, _, none⟩) NB14019_14001.out _).trans (hHeld.1)))))), ((cell_far (p := ⟨gb14001, _, none⟩) NB14019_14001.out _).trans (((cell_far (p := ⟨gb14001, _, none⟩) NB14019_14001.out _).trans (((cell_far (p := ⟨gb14001, _, none⟩) NB14019_14001.out _).trans (hHeld.2.1)))))), ((cell_far (p := ⟨gb14001, _, none⟩) NB14019_14001.out _).trans (((cell_far (p := ⟨gb14001, _, none⟩) NB14019_14001.out _).trans (((cell_far (p := ⟨gb14001, _, none⟩) NB14019_14001.out _).trans (hHeld.2.2.1)))))), ((cell_far (p := ⟨gb14001, _, none⟩) NB14027_14001.out _).trans (((cell_far (p := ⟨gb14001, _, none⟩) NB14027_14001.out _).trans (((cell_far (p := ⟨gb14001, _, none⟩) NB14027_14001.out _).trans (hHeld.2.2.2.1)))))), ((cell_far (p := ⟨gb14001, _, none⟩) NB14027_14001.out _).trans (((cell_far (p := ⟨gb14001, _, none⟩) NB14027_14001.out _).trans (((cell_far (p := ⟨gb14001, _, none⟩) NB14027_14001.out _).trans (hHeld.2.2.2.2.1)))))), ((cell_far (p := ⟨gb14001, _, none⟩) NB14027_14001.out _).trans (((cell_far (p := ⟨gb14001, _, none⟩) NB14027_14001.out _).trans (((cell_far (p := ⟨gb14001, _, none⟩) NB14027_14001.out _).trans (hHeld.2.2.2.2.2))))))⟩ (fun hHeld => ?_)
   clear hK K
   refine one_ (i := 3) (N := none) #[true, true, true, true] rfl rfl (by kernel_rfl) (by decide) (fun K hK => ?_)
   have hs73 : w69.cell? ⟨gb14002, 0, none⟩ = some (.int .i64 0) := (blk_cell BK14002.out 0).trans rfl
   have hfs73 := blk_frozen BK14002.out 0
   have hns73_0 := NB14001_14002.out
   have hns73_2 := NB14019_14002.out
   have hns73_3 := NB14027_14002.out
   have hms73_0 := NB14002_14001.out
   have hms73_2 := NB14002_14019.out
   have hms73_3 := NB14002_14027.out
   have hs74 : w69.cell? ⟨gb14002, 1, none⟩ = some (.int .i64 0) := (blk_cell BK14002.out 1).trans rfl
   have hfs74 := blk_frozen BK14002.out 1
   have hns74_0 := NB14001_14002.out
   have hns74_2 := NB14019_14002.out
   have hns74_3 := NB14027_14002.out
   have hms74_0 := NB14002_14001.out
   have hms74_2 := NB14002_14019.out
   have hms74_3 := NB14002_14027.out
   have hs75 : w69.cell? ⟨gb14002, 2, none⟩ = some (.slice none 0 0) := (blk_cell BK14002.out 2).trans rfl
   have hfs75 := blk_frozen BK14002.out 2
   have hns75_0 := NB14001_14002.out
   have hns75_2 := NB14019_14002.out
   have hns75_3 := NB14027_14002.out
   have hms75_0 := NB14002_14001.out
   have hms75_2 := NB14002_14019.out
   have hms75_3 := NB14002_14027.out
   refine skip_ (w1 := ?_) (by rfl) rfl ?_ ?_
   rotate_left
   ·go_simp
    rfl
   refine hK.out _ _ ⟨((cell_far (p := ⟨gb14002, _, none⟩) NB14019_14002.out _).trans (((cell_far (p := ⟨gb14002, _, none⟩) NB14019_14002.out _).trans (((cell_far (p := ⟨gb14002, _, none⟩) NB14019_14002.out _).trans (hHeld.1)))))), ((cell_far (p := ⟨gb14002, _, none⟩) NB14019_14002.out _).trans (((cell_far (p := ⟨gb14002, _, none⟩) NB14019_14002.out _).trans (((cell_far (p := ⟨gb14002, _, none⟩) NB14019_14002.out _).trans (hHeld.2.1)))))), ((cell_far (p := ⟨gb14002, _, none⟩) NB14019_14002.out _).trans (((cell_far (p := ⟨gb14002, _, none⟩) NB14019_14002.out _).trans (((cell_far (p := ⟨gb14002, _, none⟩) NB14019_14002.out _).trans (hHeld.2.2.1)))))), ((cell_far (p := ⟨gb14002, _, none⟩) NB14027_14002.out _).trans (((cell_far (p := ⟨gb14002, _, none⟩) NB14027_14002.out _).trans (((cell_far (p := ⟨gb14002, _, none⟩) NB14027_14002.out _).trans (hHeld.2.2.2.1)))))), ((cell_far (p := ⟨gb14002, _, none⟩) NB14027_14002.out _).trans (((cell_far (p := ⟨gb14002, _, none⟩) NB14027_14002.out _).trans (((cell_far (p := ⟨gb14002, _, none⟩) NB14027_14002.out _).trans (hHeld.2.2.2.2.1)))))), ((cell_far (p := ⟨gb14002, _, none⟩) NB14027_14002.out _).trans (((cell_far (p := ⟨gb14002, _, none⟩) NB14027_14002.out _).trans (((cell_far (p := ⟨gb14002, _, none⟩) NB14027_14002.out _).trans (hHeld.2.2.2.2.2))))))⟩ (fun hHeld => ?_)
   clear hK K
   refine done_ (by kernel_rfl) ?_
   try go_wp2
   refine bodyPost_ret (results_cc rfl _ _ gb14001 gb14002 25 25 #[.int .i64 t14012, .int .i64 t14038, .slice Ao55 t14014.length co55] #[.int .i64 (wrap64 (t14020 + t14012)), .int .i64 t14021, .slice Ao63 t14022.length co63] (0, 0) (0, 0) _ _ rfl (by refine pB ?_; refine blk_far ?_ NB14001_14002.out _; refine pB ?_; refine blk_far ?_ NB14001_14002.out _; refine pB ?_; refine blk_far ?_ NB14001_14002.out _; refine pB ?_; refine blk_put (cs := #[.int .i64 t14012, .int .i64 t14038, .slice none 0 0]) ?_ 2 _ rfl; refine pB ?_; refine blk_put (cs := #[.int .i64 t14012, .int .i64 0, .slice none 0 0]) ?_ 1 _ rfl; refine pB ?_; refine blk_put (cs := #[.int .i64 0, .int .i64 0, .slice none 0 0]) ?_ 0 _ rfl; refine pB ?_; exact BK14001.out) Tryd.underlying25 rfl (by kernel_rfl) rfl (by refine pB ?_; refine blk_put (cs := #[.int .i64 (wrap64 (t14020 + t14012)), .int .i64 t14021, .slice none 0 0]) ?_ 2 _ rfl; refine pB ?_; refine blk_put (cs := #[.int .i64 (wrap64 (t14020 + t14012)), .int .i64 0, .slice none 0 0]) ?_ 1 _ rfl; refine pB ?_; refine blk_put (cs := #[.int .i64 0, .int .i64 0, .slice none 0 0]) ?_ 0 _ rfl; refine pB ?_; refine blk_far ?_ NB14002_14001.out _; refine pB ?_; refine blk_far ?_ NB14002_14001.out _; refine pB ?_; refine blk_far ?_ NB14002_14001.out _; refine pB ?_; exact BK14002.out) Tryd.underlying25 rfl (by kernel_rfl)) rfl ?_
   exact ⟨_, _, erf, by (with_reducible repeat (first | apply Kd.R_alloc | apply Kd.R_drewN | apply Kd.R_drew)); exact Kd.R_mono (Kd.R_far (p := ⟨gb14002, 2, none⟩) (Kd.R_far (p := ⟨gb14002, 1, none⟩) (Kd.R_far (p := ⟨gb14002, 0, none⟩) (Kd.R_far (p := ⟨gb14001, 2, none⟩) (Kd.R_far (p := ⟨gb14001, 1, none⟩) (Kd.R_far (p := ⟨gb14001, 0, none⟩) (Kd.R_types (Kd.R_types HO14016.out BK14001.out (by decide)) BK14002.out (by decide)) (fun _ hk => hk.1.2) (.int .i64 t14012)) (fun _ hk => hk.1.2) (.int .i64 t14038)) (fun _ hk => hk.1.2) (.slice Ao55 t14014.length co55)) (fun _ hk => hk.2) (.int .i64 (wrap64 (t14020 + t14012)))) (fun _ hk => hk.2) (.int .i64 t14021)) (fun _ hk => hk.2) (.slice Ao63 t14022.length co63)) (fun _ hk => hk.1.1.2), by (with_reducible repeat (first | apply Kd.R_alloc | apply Kd.R_drewN | apply Kd.R_drew)); exact Kd.R_mono (Kd.R_far (p := ⟨gb14002, 2, none⟩) (Kd.R_far (p := ⟨gb14002, 1, none⟩) (Kd.R_far (p := ⟨gb14002, 0, none⟩) (Kd.R_far (p := ⟨gb14001, 2, none⟩) (Kd.R_far (p := ⟨gb14001, 1, none⟩) (Kd.R_far (p := ⟨gb14001, 0, none⟩) (Kd.R_types (Kd.R_types HO14024.out BK14001.out (by decide)) BK14002.out (by decide)) (fun _ hk => hk.1.2) (.int .i64 t14012)) (fun _ hk => hk.1.2) (.int .i64 t14038)) (fun _ hk => hk.1.2) (.slice Ao55 t14014.length co55)) (fun _ hk => hk.2) (.int .i64 (wrap64 (t14020 + t14012)))) (fun _ hk => hk.2) (.int .i64 t14021)) (fun _ hk => hk.2) (.slice Ao63 t14022.length co63)) (fun _ hk => hk.1.1.2), hbIsS141⟩
  ·rw [if_neg c42] at H
   have c42b0 : (t14028 == 1) = false := beq_eq_false_iff_ne.mpr c42
   have c42b1 : (t14028 != 1) = true := bne_iff_ne.mpr c42
   by_cases c76 : t14028 = 2
   ·rw [if_pos c76] at H
    have c76b0 : (t14028 == 2) = true := beq_iff_eq.mpr c76
    have c76b1 : (t14028 != 2) = false := bne_eq_false_iff_eq.mpr c76
    clear c76
    replace H := Option.bind_eq_some_iff.mp H
    obtain ⟨⟨t14041, t14042, t14043⟩, A770, H⟩ := H
    replace H : ((spec_l01Cur_pick.f t14003 t14042 t14043 9).bind fun bt14044 => (if 0 ≤ (wrap64 ((wrap64 (400 - t14041)) + bt14044.1)) then (if (wrap64 ((wrap64 (400 - t14041)) + bt14044.1) : Int).toNat ≤ 281474976710656 then (some (t14012, t14013, t14014, wrap64 (t14020 + t14012), t14021, (List.replicate (wrap64 ((wrap64 (400 - t14041)) + bt14044.1) : Int).toNat 0))) else (none)) else (none))) = some (r1, r2, r3, r4, r5, r6) := H
    have A77 := Aside0.mk A770
    clear A770
    replace H := Option.bind_eq_some_iff.mp H
    obtain ⟨⟨t14044, t14045, t14046⟩, A780, H⟩ := H
    replace H : (if 0 ≤ (wrap64 ((wrap64 (400 - t14041)) + t14044)) then (if (wrap64 ((wrap64 (400 - t14041)) + t14044) : Int).toNat ≤ 281474976710656 then (some (t14012, t14013, t14014, wrap64 (t14020 + t14012), t14021, (List.replicate (wrap64 ((wrap64 (400 - t14041)) + t14044) : Int).toNat 0))) else (none)) else (none)) = some (r1, r2, r3, r4, r5, r6) := H
    have A78 := Aside0.mk A780
    clear A780
    obtain ⟨ji79, hji79⟩ : ∃ j_ : Int, (wrap64 ((wrap64 (400 - t14041)) + t14044)) = j_ := ⟨_, rfl⟩
    replace H : (if 0 ≤ (ji79) then (if (ji79 : Int).toNat ≤ 281474976710656 then (some (t14012, t14013, t14014, wrap64 (t14020 + t14012), t14021, (List.replicate (ji79 : Int).toNat 0))) else (none)) else (none)) = some (r1, r2, r3, r4, r5, r6) := by first | (rw [hji79] at H; exact H) | (simp only [hji79] at H ⊢; exact H)
    (try rw [hji79] at A2)
    (try rw [hji79] at A3)
    (try rw [hji79] at A4)
    (try rw [hji79] at A5)
    (try rw [hji79] at A6)
    (try rw [hji79] at A77)
    (try rw [hji79] at A78)
    have hji79w : (IntKind.i64.wrap ((wrap64 (400 - t14041)) + t14044)) = ji79 := (i64_w _).trans hji79
    by_cases c80 : 0 ≤ (ji79)
    ·rw [if_pos c80] at H
     have c80b0 := eq_true c80
     have c80b1 : decide (0 ≤ (ji79)) = true := decide_eq_true c80
     clear c80
     by_cases c81 : (ji79 : Int).toNat ≤ 281474976710656
     ·rw [if_pos c81] at H
      have c81b0 := eq_true c81
      have c81b1 : decide ((ji79 : Int).toNat ≤ 281474976710656) = true := decide_eq_true c81
      clear c81
      obtain ⟨y14047, hy14047⟩ : ∃ y_ : List Int, y_ = (List.replicate (ji79 : Int).toNat 0) := ⟨_, rfl⟩
      replace H : (some (t14012, t14013, t14014, wrap64 (t14020 + t14012), t14021, y14047)) = some (r1, r2, r3, r4, r5, r6) := repH hy14047 H
      have Ny14047 := Aside0.mk hy14047
      clear hy14047
      simp only [Option.some.injEq, Prod.mk.injEq] at H
      obtain ⟨rfl, rfl, rfl, rfl, rfl, rfl⟩ := H
      go_enter Tryd.func13, Tryd.ntmps13
      try go_wp2_with (first | ((with_reducible refine gate_dst (N := 2) rfl ?_); refine boxE 2 #[.int .i64 0, .int .i64 0, .slice none 0 0] 25 ?_; intro gb14001 hg w82 BK14001 hb; have GW14001 := Aside0.mk (gsz hg hbw : w.heap.size ≤ gb14001); have GE14001 := GW14001; replace HB := Aside0.mk (below_step hbw hb); clear hb hg) | ((with_reducible refine gate_dst (N := 3) rfl ?_); refine boxE 3 #[.int .i64 0, .int .i64 0, .slice none 0 0] 25 ?_; intro gb14002 hg w83 BK14002 hb; have GW14002 := Aside0.mk (gsz hg hbs : w.heap.size ≤ gb14002); have GE14002 := GW14002; have NB14001_14002 := Aside0.mk (nbl BK14001 hg); have NB14002_14001 := Aside0.mk (nbg BK14001 hg); replace BK14001 := Aside0.mk (bkb BK14001 hb); replace HB := Aside0.mk (below_step hbs hb); clear hb hg) | ((with_reducible refine gate_callee (f := 61) rfl ?_); refine goesM (some 9) Tryd.func61 #[.slice A0 l0.length c0] ?_; (with_reducible refine (spec_l01Open.calls _ _ l0 t14003 t14004 t14005 w _ ?side1 ?side2 ?side3 A2.out).mono ?_); (case side1 => exact hbs); (case side2 => exact HR0.out); (case side3 => exact HC0.out); rintro e w84 ⟨g14006, rfl, hi, hb, hb2⟩; refine ⟨_, rfl, ?_⟩; have HI14006 := Aside0.mk (hi); have NB14006_14001 := Aside0.mk (IsS141.ne_blk hi (bkb BK14001 hb2) (by decide)); have NB14001_14006 := Aside0.mk (Ne.symm (IsS141.ne_blk hi (bkb BK14001 hb2) (by decide))); have NB14006_14002 := Aside0.mk (IsS141.ne_blk hi (bkb BK14002 hb2) (by decide)); have NB14002_14006 := Aside0.mk (Ne.symm (IsS141.ne_blk hi (bkb BK14002 hb2) (by decide))); replace BK14001 := Aside0.mk (bkb BK14001 hb2); replace BK14002 := Aside0.mk (bkb BK14002 hb2); replace HB := Aside0.mk (hb); (try clear hb); (try clear hb2); (try clear hk); (try clear hi)) | ((with_reducible refine gate_callee (f := 62) rfl ?_); refine goesM (some 11) Tryd.func62 #[.pointer (some ⟨g14006, 0, none⟩), .int .i64 40] ?_; (with_reducible refine (spec_l01Cur_text.calls k g14006 t14003 t14004 t14005 40 t14007 t14010 t14011 w _ ?side1 ?side2 A3.out).mono ?_); (case side1 => exact pIIsS141 HI14006); (case side2 => exact hbIsS141); rintro e w85 ⟨v14008, rfl, ho0, hi, hb, hk⟩; refine ⟨_, rfl, ?_⟩; have HO14009 := Aside0.mk (Kd.R_lower ho0 (below_size hbIsS141)); replace BK14001 := Aside0.mk (bkk hk BK14001 NB14001_14006.out); replace BK14002 := Aside0.mk (bkk hk BK14002 NB14002_14006.out); replace HB := Aside0.mk (hb); replace HI14006 := Aside0.mk (hi); (try clear hb); (try clear hb2); (try clear hk); (try clear hi); (try clear ho0); obtain ⟨Ao86, co86, eo86⟩ := Kd.R_slice HO14009.out; subst eo86) | ((with_reducible refine gate_callee (f := 63) rfl ?_); refine goesM (some 14) Tryd.func63 #[.pointer (some ⟨g14006, 0, none⟩), .slice Ao86 t14007.length co86] ?_; (with_reducible refine (spec_l01Cur_edit.calls k g14006 t14003 t14010 t14011 _ _ t14007 t14012 t14013 t14014 t14017 t14018 w _ ?side1 ?side2 ?side3 ?side4 ?side5 A4.out).mono ?_); (case side1 => exact pIIsS141 HI14006); (case side2 => exact hbIsS141); (case side3 => exact cpl (Kd.R_reads' HO14009.out).2.2); (case side4 => exact (Kd.R_reads' HO14009.out).2.1); (case side5 => exact far_slice (IsS141.own_ne HI14006.out HO14009.out (by decide))); rintro e w87 ⟨v14015, rfl, ho0, hi, hb, hk⟩; refine ⟨_, rfl, ?_⟩; have HO14016 := Aside0.mk (Kd.R_lower (Kd.R_new' ho0 (Kd.R_lt (hrnR HO14009))) (below_size hbIsS141)); replace BK14001 := Aside0.mk (bkk hk BK14001 NB14001_14006.out); replace BK14002 := Aside0.mk (bkk hk BK14002 NB14002_14006.out); replace HO14009 := Aside0.mk (Kd.R_mono (Kd.R_told (Kd.R_oldK (IsS141.apart (show IsS141 w _ g14006 t14003 t14010 t14011 from pIIsS141 HI14006) (hrnR HO14009) (by decide)) hk) (Kd.R_base ho0)) (fun _ h_ => h_.1)); replace HB := Aside0.mk (hb); replace HI14006 := Aside0.mk (hi); (try clear hb); (try clear hb2); (try clear hk); (try clear hi); (try clear ho0)) | ((with_reducible refine gate_dst (N := 6) rfl ?_); refine boxE 6 #[.int .i64 0, .int .i64 0, .slice none 0 0] 25 ?_; intro gb14019 hg w88 BK14019 hb; have GW14019 := Aside0.mk (gsz hg hbIsS141 : w.heap.size ≤ gb14019); have GE14019 := GW14019; have NB14001_14019 := Aside0.mk (nbl BK14001 hg); have NB14019_14001 := Aside0.mk (nbg BK14001 hg); have NB14002_14019 := Aside0.mk (nbl BK14002 hg); have NB14019_14002 := Aside0.mk (nbg BK14002 hg); have NB14006_14019 := Aside0.mk ((by rw [hg]; exact Nat.ne_of_lt (IsS141.lt (show IsS141 w _ g14006 t14003 t14017 t14018 from pIIsS141 HI14006)) : g14006 ≠ gb14019)); have NB14019_14006 := Aside0.mk ((by rw [hg]; exact Nat.ne_of_gt (IsS141.lt (show IsS141 w _ g14006 t14003 t14017 t14018 from pIIsS141 HI14006)) : gb14019 ≠ g14006)); replace HO14009 := Aside0.mk (Kd.R_below (hrnR HO14009) hb); replace HO14016 := Aside0.mk (Kd.R_below (hrnR HO14016) hb); replace BK14001 := Aside0.mk (bkb BK14001 hb); replace BK14002 := Aside0.mk (bkb BK14002 hb); replace HB := Aside0.mk (below_step hbIsS141 hb); replace HI14006 := Aside0.mk (IsS141.below (pIIsS141 HI14006) hb); clear hb hg; have hnb89 := NB14019_14001.out; have hnc89 := NB14001_14019.out; have hnb90 := NB14019_14002.out; have hnc90 := NB14002_14019.out; have hnb91 := NB14019_14006.out; have hnc91 := NB14006_14019.out; have hcz92_0 : w88.cell? ⟨gb14019, 0, none⟩ = some (.int .i64 0) := (blk_cell BK14019.out 0).trans rfl; have hcz92_1 : w88.cell? ⟨gb14019, 1, none⟩ = some (.int .i64 0) := (blk_cell BK14019.out 1).trans rfl; have hcz92_2 : w88.cell? ⟨gb14019, 2, none⟩ = some (.slice none 0 0) := (blk_cell BK14019.out 2).trans rfl; have hfz92_0 := blk_frozen BK14019.out 0; have hfz92_1 := blk_frozen BK14019.out 1; have hfz92_2 := blk_frozen BK14019.out 2; obtain ⟨Ao93, co93, eo93⟩ := Kd.R_slice HO14016.out; subst eo93) | ((with_reducible refine gate_callee (f := 63) rfl ?_); refine goesM (some 18) Tryd.func63 #[.pointer (some ⟨g14006, 0, none⟩), .slice Ao93 t14014.length co93] ?_; (with_reducible refine (spec_l01Cur_edit.calls k g14006 t14003 t14017 t14018 _ _ t14014 t14020 t14021 t14022 t14025 t14026 w _ ?side1 ?side2 ?side3 ?side4 ?side5 A5.out).mono ?_); (case side1 => exact pIIsS141 HI14006); (case side2 => exact hbIsS141); (case side3 => refine (Kd.R_reads' (e := 5) (base := w.heap.size) (ok := fun k_ => (True ∧ some k_ ≠ (.slice Ao86 t14007.length co86 : Value).ownBlock)) (n := t14014.length) (c := co93) ?_).2.2; exact (by (with_reducible repeat (first | apply Kd.R_alloc | apply Kd.R_drewN | apply Kd.R_drew)); exact (Kd.R_mono (Kd.R_far (p := ⟨gb14019, 2, none⟩) (Kd.R_far (p := ⟨gb14019, 1, none⟩) (Kd.R_far (p := ⟨gb14019, 0, none⟩) (Kd.R_types HO14016.out BK14019.out (by decide)) (fun _ hk => hk.2) (.int .i64 t14012)) (fun _ hk => hk.2) (.int .i64 t14013)) (fun _ hk => hk.2) (.slice Ao93 t14014.length co93)) (fun _ h_ => h_.1)))); (case side4 => exact (Kd.R_reads' HO14016.out).2.1); (case side5 => exact far_slice (IsS141.own_ne HI14006.out HO14016.out (by decide))); rintro e w94 ⟨v14023, rfl, ho0, hi, hb, hk⟩; refine ⟨_, rfl, ?_⟩; have HO14024 := Aside0.mk (Kd.R_lower (Kd.R_new' (Kd.R_new' ho0 (Kd.R_lt (by (with_reducible repeat (first | apply Kd.R_alloc | apply Kd.R_drewN | apply Kd.R_drew)); exact (Kd.R_mono (Kd.R_far (p := ⟨gb14019, 2, none⟩) (Kd.R_far (p := ⟨gb14019, 1, none⟩) (Kd.R_far (p := ⟨gb14019, 0, none⟩) (Kd.R_types HO14009.out BK14019.out (by decide)) (fun _ hk => hk.2) (.int .i64 t14012)) (fun _ hk => hk.2) (.int .i64 t14013)) (fun _ hk => hk.2) (.slice Ao93 t14014.length co93)) (fun _ h_ => h_.1))))) (Kd.R_lt (by (with_reducible repeat (first | apply Kd.R_alloc | apply Kd.R_drewN | apply Kd.R_drew)); exact (Kd.R_mono (Kd.R_far (p := ⟨gb14019, 2, none⟩) (Kd.R_far (p := ⟨gb14019, 1, none⟩) (Kd.R_far (p := ⟨gb14019, 0, none⟩) (Kd.R_types HO14016.out BK14019.out (by decide)) (fun _ hk => hk.2) (.int .i64 t14012)) (fun _ hk => hk.2) (.int .i64 t14013)) (fun _ hk => hk.2) (.slice Ao93 t14014.length co93)) (fun _ h_ => h_.1))))) (below_size hbIsS141)); replace BK14001 := Aside0.mk (KeepBut.blk hk (g' := gb14001) (o := .cells #[.int .i64 0, .int .i64 0, .slice none 0 0] 25 (0, 0)) (by refine pB ?_; refine blk_far ?_ NB14001_14019.out _; refine pB ?_; refine blk_far ?_ NB14001_14019.out _; refine pB ?_; refine blk_far ?_ NB14001_14019.out _; refine pB ?_; exact BK14001.out) NB14001_14006.out (by simp)); replace BK14002 := Aside0.mk (KeepBut.blk hk (g' := gb14002) (o := .cells #[.int .i64 0, .int .i64 0, .slice none 0 0] 25 (0, 0)) (by refine pB ?_; refine blk_far ?_ NB14002_14019.out _; refine pB ?_; refine blk_far ?_ NB14002_14019.out _; refine pB ?_; refine blk_far ?_ NB14002_14019.out _; refine pB ?_; exact BK14002.out) NB14002_14006.out (by simp)); replace HO14009 := Aside0.mk (Kd.R_mono (Kd.R_told (Kd.R_oldK (IsS141.apart (show IsS141 w _ g14006 t14003 t14017 t14018 from pIIsS141 HI14006) (by (with_reducible repeat (first | apply Kd.R_alloc | apply Kd.R_drewN | apply Kd.R_drew)); exact (Kd.R_mono (Kd.R_far (p := ⟨gb14019, 2, none⟩) (Kd.R_far (p := ⟨gb14019, 1, none⟩) (Kd.R_far (p := ⟨gb14019, 0, none⟩) (Kd.R_types HO14009.out BK14019.out (by decide)) (fun _ hk => hk.2) (.int .i64 t14012)) (fun _ hk => hk.2) (.int .i64 t14013)) (fun _ hk => hk.2) (.slice Ao93 t14014.length co93)) (fun _ h_ => h_.1))) (by decide)) hk) (Kd.R_base ho0)) (fun _ h_ => h_.1)); replace HO14016 := Aside0.mk (Kd.R_mono (Kd.R_told (Kd.R_oldK (IsS141.apart (show IsS141 w _ g14006 t14003 t14017 t14018 from pIIsS141 HI14006) (by (with_reducible repeat (first | apply Kd.R_alloc | apply Kd.R_drewN | apply Kd.R_drew)); exact (Kd.R_mono (Kd.R_far (p := ⟨gb14019, 2, none⟩) (Kd.R_far (p := ⟨gb14019, 1, none⟩) (Kd.R_far (p := ⟨gb14019, 0, none⟩) (Kd.R_types HO14016.out BK14019.out (by decide)) (fun _ hk => hk.2) (.int .i64 t14012)) (fun _ hk => hk.2) (.int .i64 t14013)) (fun _ hk => hk.2) (.slice Ao93 t14014.length co93)) (fun _ h_ => h_.1))) (by decide)) hk) (Kd.R_base ho0)) (fun _ h_ => h_.1)); replace BK14019 := Aside0.mk (KeepBut.blk hk (g' := gb14019) (o := .cells #[.int .i64 t14012, .int .i64 t14013, .slice Ao93 t14014.length co93] 25 (0, 0)) (by refine pB ?_; refine blk_put (cs := #[.int .i64 t14012, .int .i64 t14013, .slice none 0 0]) ?_ 2 _ rfl; refine pB ?_; refine blk_put (cs := #[.int .i64 t14012, .int .i64 0, .slice none 0 0]) ?_ 1 _ rfl; refine pB ?_; refine blk_put (cs := #[.int .i64 0, .int .i64 0, .slice none 0 0]) ?_ 0 _ rfl; refine pB ?_; exact BK14019.out) NB14019_14006.out (by simp)); replace HB := Aside0.mk (hb); replace HI14006 := Aside0.mk (hi); (try clear hb); (try clear hb2); (try clear hk); (try clear hi); (try clear ho0)) | ((with_reducible refine gate_dst (N := 7) rfl ?_); refine boxE 7 #[.int .i64 0, .int .i64 0, .slice none 0 0] 25 ?_; intro gb14027 hg w95 BK14027 hb; have GW14027 := Aside0.mk (gsz hg hbIsS141 : w.heap.size ≤ gb14027); have GE14027 := GW14027; have NB14001_14027 := Aside0.mk (nbl BK14001 hg); have NB14027_14001 := Aside0.mk (nbg BK14001 hg); have NB14002_14027 := Aside0.mk (nbl BK14002 hg); have NB14027_14002 := Aside0.mk (nbg BK14002 hg); have NB14019_14027 := Aside0.mk (nbl BK14019 hg); have NB14027_14019 := Aside0.mk (nbg BK14019 hg); have NB14006_14027 := Aside0.mk ((by rw [hg]; exact Nat.ne_of_lt (IsS141.lt (show IsS141 w _ g14006 t14003 t14025 t14026 from pIIsS141 HI14006)) : g14006 ≠ gb14027)); have NB14027_14006 := Aside0.mk ((by rw [hg]; exact Nat.ne_of_gt (IsS141.lt (show IsS141 w _ g14006 t14003 t14025 t14026 from pIIsS141 HI14006)) : gb14027 ≠ g14006)); replace HO14009 := Aside0.mk (Kd.R_below (hrnR HO14009) hb); replace HO14016 := Aside0.mk (Kd.R_below (hrnR HO14016) hb); replace HO14024 := Aside0.mk (Kd.R_below (hrnR HO14024) hb); replace BK14001 := Aside0.mk (bkb BK14001 hb); replace BK14002 := Aside0.mk (bkb BK14002 hb); replace BK14019 := Aside0.mk (bkb BK14019 hb); replace HB := Aside0.mk (below_step hbIsS141 hb); replace HI14006 := Aside0.mk (IsS141.below (pIIsS141 HI14006) hb); clear hb hg; have hnb96 := NB14027_14001.out; have hnc96 := NB14001_14027.out; have hnb97 := NB14027_14002.out; have hnc97 := NB14002_14027.out; have hnb98 := NB14027_14019.out; have hnc98 := NB14019_14027.out; have hnb99 := NB14027_14006.out; have hnc99 := NB14006_14027.out; have hcz100_0 : w95.cell? ⟨gb14027, 0, none⟩ = some (.int .i64 0) := (blk_cell BK14027.out 0).trans rfl; have hcz100_1 : w95.cell? ⟨gb14027, 1, none⟩ = some (.int .i64 0) := (blk_cell BK14027.out 1).trans rfl; have hcz100_2 : w95.cell? ⟨gb14027, 2, none⟩ = some (.slice none 0 0) := (blk_cell BK14027.out 2).trans rfl; have hfz100_0 := blk_frozen BK14027.out 0; have hfz100_1 := blk_frozen BK14027.out 1; have hfz100_2 := blk_frozen BK14027.out 2; obtain ⟨Ao101, co101, eo101⟩ := Kd.R_slice HO14024.out; subst eo101; have hcz102_0 : w95.cell? ⟨gb14019, 0, none⟩ = some (.int .i64 t14012) := (blk_cell BK14019.out 0).trans rfl; have hcz102_1 : w95.cell? ⟨gb14019, 1, none⟩ = some (.int .i64 t14013) := (blk_cell BK14019.out 1).trans rfl; have hcz102_2 : w95.cell? ⟨gb14019, 2, none⟩ = some (.slice Ao93 t14014.length co93) := (blk_cell BK14019.out 2).trans rfl; have hfz102_0 := blk_frozen BK14019.out 0; have hfz102_1 := blk_frozen BK14019.out 1; have hfz102_2 := blk_frozen BK14019.out 2) | ((with_reducible refine gate_callee (f := 64) rfl ?_); refine goesM (some 26) Tryd.func64 #[.pointer (some ⟨g14006, 0, none⟩), .int .i64 9] ?_; (with_reducible refine (spec_l01Cur_pick.calls g14006 t14003 t14025 t14026 9 t14028 t14029 t14030 w _ ?side1 ?side2 A6.out).mono ?_); (case side1 => exact pIIsS141 HI14006); (case side2 => exact hbIsS141); rintro e w103 ⟨rfl, hi, hb, hk⟩; refine ⟨_, rfl, ?_⟩; replace BK14001 := Aside0.mk (KeepBut.blk hk (g' := gb14001) (o := .cells #[.int .i64 0, .int .i64 0, .slice none 0 0] 25 (0, 0)) (by refine pB ?_; refine blk_far ?_ NB14001_14027.out _; refine pB ?_; refine blk_far ?_ NB14001_14027.out _; refine pB ?_; refine blk_far ?_ NB14001_14027.out _; refine pB ?_; refine blk_far ?_ NB14001_14027.out _; refine pB ?_; exact BK14001.out) NB14001_14006.out (by simp)); replace BK14002 := Aside0.mk (KeepBut.blk hk (g' := gb14002) (o := .cells #[.int .i64 0, .int .i64 0, .slice none 0 0] 25 (0, 0)) (by refine pB ?_; refine blk_far ?_ NB14002_14027.out _; refine pB ?_; refine blk_far ?_ NB14002_14027.out _; refine pB ?_; refine blk_far ?_ NB14002_14027.out _; refine pB ?_; refine blk_far ?_ NB14002_14027.out _; refine pB ?_; exact BK14002.out) NB14002_14006.out (by simp)); replace HO14009 := Aside0.mk (Kd.R_mono (Kd.R_keep (IsS141.apart (show IsS141 w _ g14006 t14003 t14025 t14026 from pIIsS141 HI14006) (by (with_reducible repeat (first | apply Kd.R_alloc | apply Kd.R_drewN | apply Kd.R_drew)); exact (Kd.R_mono (Kd.R_far (p := ⟨gb14027, 0, none⟩) (Kd.R_far (p := ⟨gb14027, 2, none⟩) (Kd.R_far (p := ⟨gb14027, 1, none⟩) (Kd.R_far (p := ⟨gb14027, 0, none⟩) (Kd.R_types HO14009.out BK14027.out (by decide)) (fun _ hk => hk.2) (.int .i64 t14020)) (fun _ hk => hk.2) (.int .i64 t14021)) (fun _ hk => hk.2) (.slice Ao101 t14022.length co101)) (fun _ hk => hk.2) (.int .i64 (wrap64 (t14020 + t14012)))) (fun _ h_ => h_.1))) (by decide)) hk (fun _ h => h.2)) (fun _ h => h.1)); replace HO14016 := Aside0.mk (Kd.R_mono (Kd.R_keep (IsS141.apart (show IsS141 w _ g14006 t14003 t14025 t14026 from pIIsS141 HI14006) (by (with_reducible repeat (first | apply Kd.R_alloc | apply Kd.R_drewN | apply Kd.R_drew)); exact (Kd.R_mono (Kd.R_far (p := ⟨gb14027, 0, none⟩) (Kd.R_far (p := ⟨gb14027, 2, none⟩) (Kd.R_far (p := ⟨gb14027, 1, none⟩) (Kd.R_far (p := ⟨gb14027, 0, none⟩) (Kd.R_types HO14016.out BK14027.out (by decide)) (fun _ hk => hk.2) (.int .i64 t14020)) (fun _ hk => hk.2) (.int .i64 t14021)) (fun _ hk => hk.2) (.slice Ao101 t14022.length co101)) (fun _ hk => hk.2) (.int .i64 (wrap64 (t14020 + t14012)))) (fun _ h_ => h_.1))) (by decide)) hk (fun _ h => h.2)) (fun _ h => h.1)); replace BK14019 := Aside0.mk (KeepBut.blk hk (g' := gb14019) (o := .cells #[.int .i64 t14012, .int .i64 t14013, .slice Ao93 t14014.length co93] 25 (0, 0)) (by refine pB ?_; refine blk_far ?_ NB14019_14027.out _; refine pB ?_; refine blk_far ?_ NB14019_14027.out _; refine pB ?_; refine blk_far ?_ NB14019_14027.out _; refine pB ?_; refine blk_far ?_ NB14019_14027.out _; refine pB ?_; exact BK14019.out) NB14019_14006.out (by simp)); replace HO14024 := Aside0.mk (Kd.R_mono (Kd.R_keep (IsS141.apart (show IsS141 w _ g14006 t14003 t14025 t14026 from pIIsS141 HI14006) (by (with_reducible repeat (first | apply Kd.R_alloc | apply Kd.R_drewN | apply Kd.R_drew)); exact (Kd.R_mono (Kd.R_far (p := ⟨gb14027, 0, none⟩) (Kd.R_far (p := ⟨gb14027, 2, none⟩) (Kd.R_far (p := ⟨gb14027, 1, none⟩) (Kd.R_far (p := ⟨gb14027, 0, none⟩) (Kd.R_types HO14024.out BK14027.out (by decide)) (fun _ hk => hk.2) (.int .i64 t14020)) (fun _ hk => hk.2) (.int .i64 t14021)) (fun _ hk => hk.2) (.slice Ao101 t14022.length co101)) (fun _ hk => hk.2) (.int .i64 (wrap64 (t14020 + t14012)))) (fun _ h_ => h_.1))) (by decide)) hk (fun _ h => h.2)) (fun _ h => h.1)); replace BK14027 := Aside0.mk (KeepBut.blk hk (g' := gb14027) (o := .cells #[.int .i64 (wrap64 (t14020 + t14012)), .int .i64 t14021, .slice Ao101 t14022.length co101] 25 (0, 0)) (by refine pB ?_; refine blk_put (cs := #[.int .i64 t14020, .int .i64 t14021, .slice Ao101 t14022.length co101]) ?_ 0 _ rfl; refine pB ?_; refine blk_put (cs := #[.int .i64 t14020, .int .i64 t14021, .slice none 0 0]) ?_ 2 _ rfl; refine pB ?_; refine blk_put (cs := #[.int .i64 t14020, .int .i64 0, .slice none 0 0]) ?_ 1 _ rfl; refine pB ?_; refine blk_put (cs := #[.int .i64 0, .int .i64 0, .slice none 0 0]) ?_ 0 _ rfl; refine pB ?_; exact BK14027.out) NB14027_14006.out (by simp)); replace HB := Aside0.mk (hb); replace HI14006 := Aside0.mk (hi); (try clear hb); (try clear hb2); (try clear hk); (try clear hi)) | ((with_reducible refine gate_callee (f := 64) rfl ?_); refine goesM (some 40) Tryd.func64 #[.pointer (some ⟨g14006, 0, none⟩), .int .i64 9] ?_; (with_reducible refine (spec_l01Cur_pick.calls g14006 t14003 t14029 t14030 9 t14041 t14042 t14043 w _ ?side1 ?side2 A77.out).mono ?_); (case side1 => exact pIIsS141 HI14006); (case side2 => exact hbIsS141); rintro e w104 ⟨rfl, hi, hb, hk⟩; refine ⟨_, rfl, ?_⟩; replace BK14001 := Aside0.mk (bkk hk BK14001 NB14001_14006.out); replace BK14002 := Aside0.mk (bkk hk BK14002 NB14002_14006.out); replace HO14009 := Aside0.mk (Kd.R_mono (Kd.R_keep (IsS141.apart (show IsS141 w _ g14006 t14003 t14029 t14030 from pIIsS141 HI14006) (hrnR HO14009) (by decide)) hk (fun _ h => h.2)) (fun _ h => h.1)); replace HO14016 := Aside0.mk (Kd.R_mono (Kd.R_keep (IsS141.apart (show IsS141 w _ g14006 t14003 t14029 t14030 from pIIsS141 HI14006) (hrnR HO14016) (by decide)) hk (fun _ h => h.2)) (fun _ h => h.1)); replace BK14019 := Aside0.mk (bkk hk BK14019 NB14019_14006.out); replace HO14024 := Aside0.mk (Kd.R_mono (Kd.R_keep (IsS141.apart (show IsS141 w _ g14006 t14003 t14029 t14030 from pIIsS141 HI14006) (hrnR HO14024) (by decide)) hk (fun _ h => h.2)) (fun _ h => h.1)); replace BK14027 := Aside0.mk (bkk hk BK14027 NB14027_14006.out); replace HB := Aside0.mk (hb); replace HI14006 := Aside0.mk (hi); (try clear hb); (try clear hb2); (try clear hk); (try clear hi)) | ((with_reducible refine gate_callee (f := 64) rfl ?_); refine goesM (some 43) Tryd.func64 #[.pointer (some ⟨g14006, 0, none⟩), .int .i64 9] ?_; (with_reducible refine (spec_l01Cur_pick.calls g14006 t14003 t14042 t14043 9 t14044 t14045 t14046 w _ ?side1 ?side2 A78.out).mono ?_); (case side1 => exact pIIsS141 HI14006); (case side2 => exact hbIsS141); rintro e w105 ⟨rfl, hi, hb, hk⟩; refine ⟨_, rfl, ?_⟩; replace BK14001 := Aside0.mk (bkk hk BK14001 NB14001_14006.out); replace BK14002 := Aside0.mk (bkk hk BK14002 NB14002_14006.out); replace HO14009 := Aside0.mk (Kd.R_mono (Kd.R_keep (IsS141.apart (show IsS141 w _ g14006 t14003 t14042 t14043 from pIIsS141 HI14006) (hrnR HO14009) (by decide)) hk (fun _ h => h.2)) (fun _ h => h.1)); replace HO14016 := Aside0.mk (Kd.R_mono (Kd.R_keep (IsS141.apart (show IsS141 w _ g14006 t14003 t14042 t14043 from pIIsS141 HI14006) (hrnR HO14016) (by decide)) hk (fun _ h => h.2)) (fun _ h => h.1)); replace BK14019 := Aside0.mk (bkk hk BK14019 NB14019_14006.out); replace HO14024 := Aside0.mk (Kd.R_mono (Kd.R_keep (IsS141.apart (show IsS141 w _ g14006 t14003 t14042 t14043 from pIIsS141 HI14006) (hrnR HO14024) (by decide)) hk (fun _ h => h.2)) (fun _ h => h.1)); replace BK14027 := Aside0.mk (bkk hk BK14027 NB14027_14006.out); replace HB := Aside0.mk (hb); replace HI14006 := Aside0.mk (hi); (try clear hb); (try clear hb2); (try clear hk); (try clear hi)) | ((with_reducible refine gate_dst (N := 45) rfl ?_); refine Kd.R_make (Kd.int .u8) _ 5 rfl (N := 45) rfl 22 _ _ rfl ji79 rfl rfl Tryd.underlying22 (.int .u8 0) 1 info5 rfl (by decide) (by omega) 0 (ok := fun _ => True) (okp := fun _ => True) rfl (fun _ hk => hk) trivial (odt) (Nat.le_trans (Nat.mul_le_mul_right _ (odt : ji79.toNat ≤ 281474976710656)) (by omega)) (Below.refl _ _) (Nat.le_refl _) ?_; intro v14048 w106 ho107 hb hg_ hnew_; clear hg_ hnew_; (first | rw [← Ny14047.out] at ho107 | (simp only [Int.reduceToNat] at ho107; rw [← Ny14047.out] at ho107)); have HO14049 := Aside0.mk (Kd.R_lower (Kd.R_new' (Kd.R_new' (Kd.R_new' ho107 (Kd.R_lt (hrnR HO14009))) (Kd.R_lt (hrnR HO14016))) (Kd.R_lt (hrnR HO14024))) (below_size hbIsS141)); replace HO14009 := Aside0.mk (Kd.R_elder' (hrnR HO14009) (Kd.R_base ho107) hb); replace HO14016 := Aside0.mk (Kd.R_elder' (hrnR HO14016) (Kd.R_base ho107) hb); replace HO14024 := Aside0.mk (Kd.R_elder' (hrnR HO14024) (Kd.R_base ho107) hb); replace BK14001 := Aside0.mk (bkb BK14001 hb); replace BK14002 := Aside0.mk (bkb BK14002 hb); replace BK14019 := Aside0.mk (bkb BK14019 hb); replace BK14027 := Aside0.mk (bkb BK14027 hb); replace HB := Aside0.mk (below_step hbIsS141 hb); replace HI14006 := Aside0.mk (IsS141.below (pIIsS141 HI14006) hb); clear hb ho107; obtain ⟨Ao108, co108, eo108⟩ := Kd.R_slice HO14049.out; subst eo108; have hcz109_0 : w106.cell? ⟨gb14027, 0, none⟩ = some (.int .i64 (wrap64 (t14020 + t14012))) := (blk_cell BK14027.out 0).trans rfl; have hcz109_1 : w106.cell? ⟨gb14027, 1, none⟩ = some (.int .i64 t14021) := (blk_cell BK14027.out 1).trans rfl; have hcz109_2 : w106.cell? ⟨gb14027, 2, none⟩ = some (.slice Ao101 t14022.length co101) := (blk_cell BK14027.out 2).trans rfl; have hfz109_0 := blk_frozen BK14027.out 0; have hfz109_1 := blk_frozen BK14027.out 1; have hfz109_2 := blk_frozen BK14027.out 2))
      have n0_ : Aside0 (Kd.R (Kd.int .u8) 5 (w106.setCell ⟨gb14027, 2, none⟩ (.slice Ao108 y14047.length co108)) w.heap.size (fun k_ => some k_ ≠ (.slice Ao93 t14014.length co93 : Value).ownBlock ∧ some k_ ≠ (.slice Ao101 t14022.length co101 : Value).ownBlock ∧ some k_ ≠ (.slice Ao108 y14047.length co108 : Value).ownBlock) (.slice Ao86 t14007.length co86) t14007) := ⟨by (with_reducible repeat (first | apply Kd.R_alloc | apply Kd.R_drewN | apply Kd.R_drew)); exact Kd.R_mono (Kd.R_far (p := ⟨gb14027, 2, none⟩) (Kd.R_types HO14009.out BK14027.out (by decide)) (fun _ hk => hk.2) (.slice Ao108 y14047.length co108)) (fun _ hk => ⟨hk.1.1.1.2, ⟨hk.1.1.2, hk.1.2⟩⟩)⟩
      have n1_ : Aside0 (Kd.R (Kd.int .u8) 5 (w106.setCell ⟨gb14027, 2, none⟩ (.slice Ao108 y14047.length co108)) w.heap.size (fun k_ => some k_ ≠ (.slice Ao86 t14007.length co86 : Value).ownBlock ∧ some k_ ≠ (.slice Ao101 t14022.length co101 : Value).ownBlock ∧ some k_ ≠ (.slice Ao108 y14047.length co108 : Value).ownBlock) (.slice Ao93 t14014.length co93) t14014) := ⟨by (with_reducible repeat (first | apply Kd.R_alloc | apply Kd.R_drewN | apply Kd.R_drew)); exact Kd.R_mono (Kd.R_far (p := ⟨gb14027, 2, none⟩) (Kd.R_types HO14016.out BK14027.out (by decide)) (fun _ hk => hk.2) (.slice Ao108 y14047.length co108)) (fun _ hk => ⟨hk.1.1.1.2, ⟨hk.1.1.2, hk.1.2⟩⟩)⟩
      have n2_ : Aside0 (Kd.R (Kd.int .u8) 5 (w106.setCell ⟨gb14027, 2, none⟩ (.slice Ao108 y14047.length co108)) w.heap.size (fun k_ => some k_ ≠ (.slice Ao86 t14007.length co86 : Value).ownBlock ∧ some k_ ≠ (.slice Ao93 t14014.length co93 : Value).ownBlock ∧ some k_ ≠ (.slice Ao108 y14047.length co108 : Value).ownBlock) (.slice Ao101 t14022.length co101) t14022) := ⟨by (with_reducible repeat (first | apply Kd.R_alloc | apply Kd.R_drewN | apply Kd.R_drew)); exact Kd.R_mono (Kd.R_far (p := ⟨gb14027, 2, none⟩) (Kd.R_types HO14024.out BK14027.out (by decide)) (fun _ hk => hk.2) (.slice Ao108 y14047.length co108)) (fun _ hk => ⟨hk.1.1.1.2, ⟨hk.1.1.2, hk.1.2⟩⟩)⟩
      have n3_ : Aside0 (Kd.R (Kd.int .u8) 5 (w106.setCell ⟨gb14027, 2, none⟩ (.slice Ao108 y14047.length co108)) w.heap.size (fun k_ => some k_ ≠ (.slice Ao86 t14007.length co86 : Value).ownBlock ∧ some k_ ≠ (.slice Ao93 t14014.length co93 : Value).ownBlock ∧ some k_ ≠ (.slice Ao101 t14022.length co101 : Value).ownBlock) (.slice Ao108 y14047.length co108) y14047) := ⟨by (with_reducible repeat (first | apply Kd.R_alloc | apply Kd.R_drewN | apply Kd.R_drew)); exact Kd.R_mono (Kd.R_far (p := ⟨gb14027, 2, none⟩) (Kd.R_types HO14049.out BK14027.out (by decide)) (fun _ hk => hk.2) (.slice Ao108 y14047.length co108)) (fun _ hk => ⟨hk.1.1.1.2, ⟨hk.1.1.2, hk.1.2⟩⟩)⟩
      have n4_ : Aside0 ((w106.setCell ⟨gb14027, 2, none⟩ (.slice Ao108 y14047.length co108)).heap[gb14001]? = some (.cells #[.int .i64 0, .int .i64 0, .slice none 0 0] 25 (0, 0))) := ⟨by refine pB ?_; refine blk_far ?_ NB14001_14027.out _; refine pB ?_; exact BK14001.out⟩
      have n5_ : Aside0 ((w106.setCell ⟨gb14027, 2, none⟩ (.slice Ao108 y14047.length co108)).heap[gb14002]? = some (.cells #[.int .i64 0, .int .i64 0, .slice none 0 0] 25 (0, 0))) := ⟨by refine pB ?_; refine blk_far ?_ NB14002_14027.out _; refine pB ?_; exact BK14002.out⟩
      have n6_ : Aside0 ((w106.setCell ⟨gb14027, 2, none⟩ (.slice Ao108 y14047.length co108)).heap[gb14019]? = some (.cells #[.int .i64 t14012, .int .i64 t14013, .slice Ao93 t14014.length co93] 25 (0, 0))) := ⟨by refine pB ?_; refine blk_far ?_ NB14019_14027.out _; refine pB ?_; exact BK14019.out⟩
      have n7_ : Aside0 ((w106.setCell ⟨gb14027, 2, none⟩ (.slice Ao108 y14047.length co108)).heap[gb14027]? = some (.cells #[.int .i64 (wrap64 (t14020 + t14012)), .int .i64 t14021, .slice Ao108 y14047.length co108] 25 (0, 0))) := ⟨by refine pB ?_; refine blk_put (cs := #[.int .i64 (wrap64 (t14020 + t14012)), .int .i64 t14021, .slice Ao101 t14022.length co101]) ?_ 2 _ rfl; refine pB ?_; exact BK14027.out⟩
      have n8_ : Aside0 (IsS141 w (w106.setCell ⟨gb14027, 2, none⟩ (.slice Ao108 y14047.length co108)) g14006 t14003 t14045 t14046) := ⟨pIIsS141 HI14006⟩
      have n9_ : Aside0 (Below w.heap.size w (w106.setCell ⟨gb14027, 2, none⟩ (.slice Ao108 y14047.length co108))) := ⟨hbIsS141⟩
      (try clear HO14009)
      (try clear HO14016)
      (try clear HO14024)
      (try clear HO14049)
      (try clear BK14001)
      (try clear BK14002)
      (try clear BK14019)
      (try clear BK14027)
      (try clear HI14006)
      (try clear HB)
      generalize (w106.setCell ⟨gb14027, 2, none⟩ (.slice Ao108 y14047.length co108)) = w110 at n0_ n1_ n2_ n3_ n4_ n5_ n6_ n7_ n8_ n9_ ⊢
      have HO14009 := n0_
      have HO14016 := n1_
      have HO14024 := n2_
      have HO14049 := n3_
      have BK14001 := n4_
      have BK14002 := n5_
      have BK14019 := n6_
      have BK14027 := n7_
      have HI14006 := n8_
      have HB := n9_
      clear n0_ n1_ n2_ n3_ n4_ n5_ n6_ n7_ n8_ n9_
      replace HO14009 := Aside0.mk (Kd.R_drew HO14009.out)
      replace HO14016 := Aside0.mk (Kd.R_drew HO14016.out)
      replace HO14024 := Aside0.mk (Kd.R_drew HO14024.out)
      replace HO14049 := Aside0.mk (Kd.R_drew HO14049.out)
      replace BK14001 := Aside0.mk (blk_drew BK14001.out)
      replace BK14002 := Aside0.mk (blk_drew BK14002.out)
      replace BK14019 := Aside0.mk (blk_drew BK14019.out)
      replace BK14027 := Aside0.mk (blk_drew BK14027.out)
      replace HI14006 := Aside0.mk (IsS141.drew HI14006.out)
      replace HB := Aside0.mk (below_drew1 HB.out)
      refine start_ (n := 4) (S := fun w' => w'.cell? ⟨gb14019, 0, none⟩ = some (.int .i64 t14012) ∧ w'.cell? ⟨gb14019, 1, none⟩ = some (.int .i64 t14013) ∧ w'.cell? ⟨gb14019, 2, none⟩ = some (.slice Ao93 t14014.length co93) ∧ w'.cell? ⟨gb14027, 0, none⟩ = some (.int .i64 (wrap64 (t14020 + t14012))) ∧ w'.cell? ⟨gb14027, 1, none⟩ = some (.int .i64 t14021) ∧ w'.cell? ⟨gb14027, 2, none⟩ = some (.slice Ao108 y14047.length co108)) (ds := []) #[false, false, false, false] (by kernel_rfl) rfl rfl ⟨(blk_cell BK14019.out 0).trans rfl, (blk_cell BK14019.out 1).trans rfl, (blk_cell BK14019.out 2).trans rfl, (blk_cell BK14027.out 0).trans rfl, (blk_cell BK14027.out 1).trans rfl, (blk_cell BK14027.out 2).trans rfl⟩ (fun hHeld => ?_)
      generalize w110.drew = w111 at HO14009 HO14016 HO14024 HO14049 BK14001 BK14002 BK14019 BK14027 HI14006 HB hHeld ⊢
      refine take_ (i := 0) (N := some 47) (v := ?_) (a' := ?_) #[true, false, false, false] rfl rfl (by kernel_rfl) (fun _ _ _ h => h) (Or.inl ⟨by rfl, ?_⟩) hHeld ?_ ?_
      rotate_left
      ·rintro w' ⟨s0, s1, s2, s3, s4, s5⟩
       go_simp
       with_reducible rfl
      rotate_left
      ·simp only [Act.put, List.setIfInBounds_toArray, List.set_cons_zero, List.set_cons_succ, i64_w, i32_w]
       rfl
      refine take_ (i := 1) (N := some 48) (v := ?_) (a' := ?_) #[true, true, false, false] rfl rfl (by kernel_rfl) (fun _ _ _ h => h) (Or.inl ⟨by rfl, ?_⟩) hHeld ?_ ?_
      rotate_left
      ·rintro w' ⟨s0, s1, s2, s3, s4, s5⟩
       go_simp
       with_reducible rfl
      rotate_left
      ·simp only [Act.put, List.setIfInBounds_toArray, List.set_cons_zero, List.set_cons_succ, i64_w, i32_w]
       rfl
      refine one_ (i := 2) (N := none) #[true, true, true, false] rfl rfl (by kernel_rfl) (by decide) (fun K hK => ?_)
      have hs112 : w111.cell? ⟨gb14001, 0, none⟩ = some (.int .i64 0) := (blk_cell BK14001.out 0).trans rfl
      have hfs112 := blk_frozen BK14001.out 0
      have hns112_1 := NB14002_14001.out
      have hns112_2 := NB14019_14001.out
      have hns112_3 := NB14027_14001.out
      have hms112_1 := NB14001_14002.out
      have hms112_2 := NB14001_14019.out
      have hms112_3 := NB14001_14027.out
      have hs113 : w111.cell? ⟨gb14001, 1, none⟩ = some (.int .i64 0) := (blk_cell BK14001.out 1).trans rfl
      have hfs113 := blk_frozen BK14001.out 1
      have hns113_1 := NB14002_14001.out
      have hns113_2 := NB14019_14001.out
      have hns113_3 := NB14027_14001.out
      have hms113_1 := NB14001_14002.out
      have hms113_2 := NB14001_14019.out
      have hms113_3 := NB14001_14027.out
      have hs114 : w111.cell? ⟨gb14001, 2, none⟩ = some (.slice none 0 0) := (blk_cell BK14001.out 2).trans rfl
      have hfs114 := blk_frozen BK14001.out 2
      have hns114_1 := NB14002_14001.out
      have hns114_2 := NB14019_14001.out
      have hns114_3 := NB14027_14001.out
      have hms114_1 := NB14001_14002.out
      have hms114_2 := NB14001_14019.out
      have hms114_3 := NB14001_14027.out
      refine skip_ (w1 := ?_) (by rfl) rfl ?_ ?_
      rotate_left
      ·go_simp
       rfl
      refine hK.out _ _ ⟨((cell_far (p := ⟨gb14001, _, none⟩) NB14019_14001.out _).trans (((cell_far (p := ⟨gb14001, _, none⟩) NB14019_14001.out _).trans (((cell_far (p := ⟨gb14001, _, none⟩) NB14019_14001.out _).trans (hHeld.1)))))), ((cell_far (p := ⟨gb14001, _, none⟩) NB14019_14001.out _).trans (((cell_far (p := ⟨gb14001, _, none⟩) NB14019_14001.out _).trans (((cell_far (p := ⟨gb14001, _, none⟩) NB14019_14001.out _).trans (hHeld.2.1)))))), ((cell_far (p := ⟨gb14001, _, none⟩) NB14019_14001.out _).trans (((cell_far (p := ⟨gb14001, _, none⟩) NB14019_14001.out _).trans (((cell_far (p := ⟨gb14001, _, none⟩) NB14019_14001.out _).trans (hHeld.2.2.1)))))), ((cell_far (p := ⟨gb14001, _, none⟩) NB14027_14001.out _).trans (((cell_far (p := ⟨gb14001, _, none⟩) NB14027_14001.out _).trans (((cell_far (p := ⟨gb14001, _, none⟩) NB14027_14001.out _).trans (hHeld.2.2.2.1)))))), ((cell_far (p := ⟨gb14001, _, none⟩) NB14027_14001.out _).trans (((cell_far (p := ⟨gb14001, _, none⟩) NB14027_14001.out _).trans (((cell_far (p := ⟨gb14001, _, none⟩) NB14027_14001.out _).trans (hHeld.2.2.2.2.1)))))), ((cell_far (p := ⟨gb14001, _, none⟩) NB14027_14001.out _).trans (((cell_far (p := ⟨gb14001, _, none⟩) NB14027_14001.out _).trans (((cell_far (p := ⟨gb14001, _, none⟩) NB14027_14001.out _).trans (hHeld.2.2.2.2.2))))))⟩ (fun hHeld => ?_)
      clear hK K
      refine one_ (i := 3) (N := none) #[true, true, true, true] rfl rfl (by kernel_rfl) (by decide) (fun K hK => ?_)
      have hs115 : w111.cell? ⟨gb14002, 0, none⟩ = some (.int .i64 0) := (blk_cell BK14002.out 0).trans rfl
      have hfs115 := blk_frozen BK14002.out 0
      have hns115_0 := NB14001_14002.out
      have hns115_2 := NB14019_14002.out
      have hns115_3 := NB14027_14002.out
      have hms115_0 := NB14002_14001.out
      have hms115_2 := NB14002_14019.out
      have hms115_3 := NB14002_14027.out
      have hs116 : w111.cell? ⟨gb14002, 1, none⟩ = some (.int .i64 0) := (blk_cell BK14002.out 1).trans rfl
      have hfs116 := blk_frozen BK14002.out 1
      have hns116_0 := NB14001_14002.out
      have hns116_2 := NB14019_14002.out
      have hns116_3 := NB14027_14002.out
      have hms116_0 := NB14002_14001.out
      have hms116_2 := NB14002_14019.out
      have hms116_3 := NB14002_14027.out
      have hs117 : w111.cell? ⟨gb14002, 2, none⟩ = some (.slice none 0 0) := (blk_cell BK14002.out 2).trans rfl
      have hfs117 := blk_frozen BK14002.out 2
      have hns117_0 := NB14001_14002.out
      have hns117_2 := NB14019_14002.out
      have hns117_3 := NB14027_14002.out
      have hms117_0 := NB14002_14001.out
      have hms117_2 := NB14002_14019.out
      have hms117_3 := NB14002_14027.out
      refine skip_ (w1 := ?_) (by rfl) rfl ?_ ?_
      rotate_left
      ·go_simp
       rfl
      refine hK.out _ _ ⟨((cell_far (p := ⟨gb14002, _, none⟩) NB14019_14002.out _).trans (((cell_far (p := ⟨gb14002, _, none⟩) NB14019_14002.out _).trans (((cell_far (p := ⟨gb14002, _, none⟩) NB14019_14002.out _).trans (hHeld.1)))))), ((cell_far (p := ⟨gb14002, _, none⟩) NB14019_14002.out _).trans (((cell_far (p := ⟨gb14002, _, none⟩) NB14019_14002.out _).trans (((cell_far (p := ⟨gb14002, _, none⟩) NB14019_14002.out _).trans (hHeld.2.1)))))), ((cell_far (p := ⟨gb14002, _, none⟩) NB14019_14002.out _).trans (((cell_far (p := ⟨gb14002, _, none⟩) NB14019_14002.out _).trans (((cell_far (p := ⟨gb14002, _, none⟩) NB14019_14002.out _).trans (hHeld.2.2.1)))))), ((cell_far (p := ⟨gb14002, _, none⟩) NB14027_14002.out _).trans (((cell_far (p := ⟨gb14002, _, none⟩) NB14027_14002.out _).trans (((cell_far (p := ⟨gb14002, _, none⟩) NB14027_14002.out _).trans (hHeld.2.2.2.1)))))), ((cell_far (p := ⟨gb14002, _, none⟩) NB14027_14002.out _).trans (((cell_far (p := ⟨gb14002, _, none⟩) NB14027_14002.out _).trans (((cell_far (p := ⟨gb14002, _, none⟩) NB14027_14002.out _).trans (hHeld.2.2.2.2.1)))))), ((cell_far (p := ⟨gb14002, _, none⟩) NB14027_14002.out _).trans (((cell_far (p := ⟨gb14002, _, none⟩) NB14027_14002.out _).trans (((cell_far (p := ⟨gb14002, _, none⟩) NB14027_14002.out _).trans (hHeld.2.2.2.2.2))))))⟩ (fun hHeld => ?_)
      clear hK K
      refine done_ (by kernel_rfl) ?_
      try go_wp2
      refine bodyPost_ret (results_cc rfl _ _ gb14001 gb14002 25 25 #[.int .i64 t14012, .int .i64 t14013, .slice Ao93 t14014.length co93] #[.int .i64 (wrap64 (t14020 + t14012)), .int .i64 t14021, .slice Ao108 y14047.length co108] (0, 0) (0, 0) _ _ rfl (by refine pB ?_; refine blk_far ?_ NB14001_14002.out _; refine pB ?_; refine blk_far ?_ NB14001_14002.out _; refine pB ?_; refine blk_far ?_ NB14001_14002.out _; refine pB ?_; refine blk_put (cs := #[.int .i64 t14012, .int .i64 t14013, .slice none 0 0]) ?_ 2 _ rfl; refine pB ?_; refine blk_put (cs := #[.int .i64 t14012, .int .i64 0, .slice none 0 0]) ?_ 1 _ rfl; refine pB ?_; refine blk_put (cs := #[.int .i64 0, .int .i64 0, .slice none 0 0]) ?_ 0 _ rfl; refine pB ?_; exact BK14001.out) Tryd.underlying25 rfl (by kernel_rfl) rfl (by refine pB ?_; refine blk_put (cs := #[.int .i64 (wrap64 (t14020 + t14012)), .int .i64 t14021, .slice none 0 0]) ?_ 2 _ rfl; refine pB ?_; refine blk_put (cs := #[.int .i64 (wrap64 (t14020 + t14012)), .int .i64 0, .slice none 0 0]) ?_ 1 _ rfl; refine pB ?_; refine blk_put (cs := #[.int .i64 0, .int .i64 0, .slice none 0 0]) ?_ 0 _ rfl; refine pB ?_; refine blk_far ?_ NB14002_14001.out _; refine pB ?_; refine blk_far ?_ NB14002_14001.out _; refine pB ?_; refine blk_far ?_ NB14002_14001.out _; refine pB ?_; exact BK14002.out) Tryd.underlying25 rfl (by kernel_rfl)) rfl ?_
      exact ⟨_, _, by first | rfl | (simp [errW_none, errW_some] <;> rfl) | (simp only [← hji79]; first | rfl | (simp [errW_none, errW_some] <;> rfl)) | (simp [*, errW_none, errW_some] <;> rfl), by (with_reducible repeat (first | apply Kd.R_alloc | apply Kd.R_drewN | apply Kd.R_drew)); exact Kd.R_mono (Kd.R_far (p := ⟨gb14002, 2, none⟩) (Kd.R_far (p := ⟨gb14002, 1, none⟩) (Kd.R_far (p := ⟨gb14002, 0, none⟩) (Kd.R_far (p := ⟨gb14001, 2, none⟩) (Kd.R_far (p := ⟨gb14001, 1, none⟩) (Kd.R_far (p := ⟨gb14001, 0, none⟩) (Kd.R_types (Kd.R_types HO14016.out BK14001.out (by decide)) BK14002.out (by decide)) (fun _ hk => hk.1.2) (.int .i64 t14012)) (fun _ hk => hk.1.2) (.int .i64 t14013)) (fun _ hk => hk.1.2) (.slice Ao93 t14014.length co93)) (fun _ hk => hk.2) (.int .i64 (wrap64 (t14020 + t14012)))) (fun _ hk => hk.2) (.int .i64 t14021)) (fun _ hk => hk.2) (.slice Ao108 y14047.length co108)) (fun _ hk => hk.1.1.2.2), by (with_reducible repeat (first | apply Kd.R_alloc | apply Kd.R_drewN | apply Kd.R_drew)); exact Kd.R_mono (Kd.R_far (p := ⟨gb14002, 2, none⟩) (Kd.R_far (p := ⟨gb14002, 1, none⟩) (Kd.R_far (p := ⟨gb14002, 0, none⟩) (Kd.R_far (p := ⟨gb14001, 2, none⟩) (Kd.R_far (p := ⟨gb14001, 1, none⟩) (Kd.R_far (p := ⟨gb14001, 0, none⟩) (Kd.R_types (Kd.R_types HO14049.out BK14001.out (by decide)) BK14002.out (by decide)) (fun _ hk => hk.1.2) (.int .i64 t14012)) (fun _ hk => hk.1.2) (.int .i64 t14013)) (fun _ hk => hk.1.2) (.slice Ao93 t14014.length co93)) (fun _ hk => hk.2) (.int .i64 (wrap64 (t14020 + t14012)))) (fun _ hk => hk.2) (.int .i64 t14021)) (fun _ hk => hk.2) (.slice Ao108 y14047.length co108)) (fun _ hk => hk.1.1.2.1), hbIsS141⟩
     ·rw [if_neg c81] at H
      exact absurd H (by simp)
    ·rw [if_neg c80] at H
     exact absurd H (by simp)
   ·rw [if_neg c76] at H
    have c76b0 : (t14028 == 2) = false := beq_eq_false_iff_ne.mpr c76
    have c76b1 : (t14028 != 2) = true := bne_iff_ne.mpr c76
    simp only [Option.some.injEq, Prod.mk.injEq] at H
    obtain ⟨rfl, rfl, rfl, rfl, rfl, rfl⟩ := H
    go_enter Tryd.func13, Tryd.ntmps13
    try go_wp2_with (first | ((with_reducible refine gate_dst (N := 2) rfl ?_); refine boxE 2 #[.int .i64 0, .int .i64 0, .slice none 0 0] 25 ?_; intro gb14001 hg w118 BK14001 hb; have GW14001 := Aside0.mk (gsz hg hbw : w.heap.size ≤ gb14001); have GE14001 := GW14001; replace HB := Aside0.mk (below_step hbw hb); clear hb hg) | ((with_reducible refine gate_dst (N := 3) rfl ?_); refine boxE 3 #[.int .i64 0, .int .i64 0, .slice none 0 0] 25 ?_; intro gb14002 hg w119 BK14002 hb; have GW14002 := Aside0.mk (gsz hg hbs : w.heap.size ≤ gb14002); have GE14002 := GW14002; have NB14001_14002 := Aside0.mk (nbl BK14001 hg); have NB14002_14001 := Aside0.mk (nbg BK14001 hg); replace BK14001 := Aside0.mk (bkb BK14001 hb); replace HB := Aside0.mk (below_step hbs hb); clear hb hg) | ((with_reducible refine gate_callee (f := 61) rfl ?_); refine goesM (some 9) Tryd.func61 #[.slice A0 l0.length c0] ?_; (with_reducible refine (spec_l01Open.calls _ _ l0 t14003 t14004 t14005 w _ ?side1 ?side2 ?side3 A2.out).mono ?_); (case side1 => exact hbs); (case side2 => exact HR0.out); (case side3 => exact HC0.out); rintro e w120 ⟨g14006, rfl, hi, hb, hb2⟩; refine ⟨_, rfl, ?_⟩; have HI14006 := Aside0.mk (hi); have NB14006_14001 := Aside0.mk (IsS141.ne_blk hi (bkb BK14001 hb2) (by decide)); have NB14001_14006 := Aside0.mk (Ne.symm (IsS141.ne_blk hi (bkb BK14001 hb2) (by decide))); have NB14006_14002 := Aside0.mk (IsS141.ne_blk hi (bkb BK14002 hb2) (by decide)); have NB14002_14006 := Aside0.mk (Ne.symm (IsS141.ne_blk hi (bkb BK14002 hb2) (by decide))); replace BK14001 := Aside0.mk (bkb BK14001 hb2); replace BK14002 := Aside0.mk (bkb BK14002 hb2); replace HB := Aside0.mk (hb); (try clear hb); (try clear hb2); (try clear hk); (try clear hi)) | ((with_reducible refine gate_callee (f := 62) rfl ?_); refine goesM (some 11) Tryd.func62 #[.pointer (some ⟨g14006, 0, none⟩), .int .i64 40] ?_; (with_reducible refine (spec_l01Cur_text.calls k g14006 t14003 t14004 t14005 40 t14007 t14010 t14011 w _ ?side1 ?side2 A3.out).mono ?_); (case side1 => exact pIIsS141 HI14006); (case side2 => exact hbIsS141); rintro e w121 ⟨v14008, rfl, ho0, hi, hb, hk⟩; refine ⟨_, rfl, ?_⟩; have HO14009 := Aside0.mk (Kd.R_lower ho0 (below_size hbIsS141)); replace BK14001 := Aside0.mk (bkk hk BK14001 NB14001_14006.out); replace BK14002 := Aside0.mk (bkk hk BK14002 NB14002_14006.out); replace HB := Aside0.mk (hb); replace HI14006 := Aside0.mk (hi); (try clear hb); (try clear hb2); (try clear hk); (try clear hi); (try clear ho0); obtain ⟨Ao122, co122, eo122⟩ := Kd.R_slice HO14009.out; subst eo122) | ((with_reducible refine gate_callee (f := 63) rfl ?_); refine goesM (some 14) Tryd.func63 #[.pointer (some ⟨g14006, 0, none⟩), .slice Ao122 t14007.length co122] ?_; (with_reducible refine (spec_l01Cur_edit.calls k g14006 t14003 t14010 t14011 _ _ t14007 t14012 t14013 t14014 t14017 t14018 w _ ?side1 ?side2 ?side3 ?side4 ?side5 A4.out).mono ?_); (case side1 => exact pIIsS141 HI14006); (case side2 => exact hbIsS141); (case side3 => exact cpl (Kd.R_reads' HO14009.out).2.2); (case side4 => exact (Kd.R_reads' HO14009.out).2.1); (case side5 => exact far_slice (IsS141.own_ne HI14006.out HO14009.out (by decide))); rintro e w123 ⟨v14015, rfl, ho0, hi, hb, hk⟩; refine ⟨_, rfl, ?_⟩; have HO14016 := Aside0.mk (Kd.R_lower (Kd.R_new' ho0 (Kd.R_lt (hrnR HO14009))) (below_size hbIsS141)); replace BK14001 := Aside0.mk (bkk hk BK14001 NB14001_14006.out); replace BK14002 := Aside0.mk (bkk hk BK14002 NB14002_14006.out); replace HO14009 := Aside0.mk (Kd.R_mono (Kd.R_told (Kd.R_oldK (IsS141.apart (show IsS141 w _ g14006 t14003 t14010 t14011 from pIIsS141 HI14006) (hrnR HO14009) (by decide)) hk) (Kd.R_base ho0)) (fun _ h_ => h_.1)); replace HB := Aside0.mk (hb); replace HI14006 := Aside0.mk (hi); (try clear hb); (try clear hb2); (try clear hk); (try clear hi); (try clear ho0)) | ((with_reducible refine gate_dst (N := 6) rfl ?_); refine boxE 6 #[.int .i64 0, .int .i64 0, .slice none 0 0] 25 ?_; intro gb14019 hg w124 BK14019 hb; have GW14019 := Aside0.mk (gsz hg hbIsS141 : w.heap.size ≤ gb14019); have GE14019 := GW14019; have NB14001_14019 := Aside0.mk (nbl BK14001 hg); have NB14019_14001 := Aside0.mk (nbg BK14001 hg); have NB14002_14019 := Aside0.mk (nbl BK14002 hg); have NB14019_14002 := Aside0.mk (nbg BK14002 hg); have NB14006_14019 := Aside0.mk ((by rw [hg]; exact Nat.ne_of_lt (IsS141.lt (show IsS141 w _ g14006 t14003 t14017 t14018 from pIIsS141 HI14006)) : g14006 ≠ gb14019)); have NB14019_14006 := Aside0.mk ((by rw [hg]; exact Nat.ne_of_gt (IsS141.lt (show IsS141 w _ g14006 t14003 t14017 t14018 from pIIsS141 HI14006)) : gb14019 ≠ g14006)); replace HO14009 := Aside0.mk (Kd.R_below (hrnR HO14009) hb); replace HO14016 := Aside0.mk (Kd.R_below (hrnR HO14016) hb); replace BK14001 := Aside0.mk (bkb BK14001 hb); replace BK14002 := Aside0.mk (bkb BK14002 hb); replace HB := Aside0.mk (below_step hbIsS141 hb); replace HI14006 := Aside0.mk (IsS141.below (pIIsS141 HI14006) hb); clear hb hg; have hnb125 := NB14019_14001.out; have hnc125 := NB14001_14019.out; have hnb126 := NB14019_14002.out; have hnc126 := NB14002_14019.out; have hnb127 := NB14019_14006.out; have hnc127 := NB14006_14019.out; have hcz128_0 : w124.cell? ⟨gb14019, 0, none⟩ = some (.int .i64 0) := (blk_cell BK14019.out 0).trans rfl; have hcz128_1 : w124.cell? ⟨gb14019, 1, none⟩ = some (.int .i64 0) := (blk_cell BK14019.out 1).trans rfl; have hcz128_2 : w124.cell? ⟨gb14019, 2, none⟩ = some (.slice none 0 0) := (blk_cell BK14019.out 2).trans rfl; have hfz128_0 := blk_frozen BK14019.out 0; have hfz128_1 := blk_frozen BK14019.out 1; have hfz128_2 := blk_frozen BK14019.out 2; obtain ⟨Ao129, co129, eo129⟩ := Kd.R_slice HO14016.out; subst eo129) | ((with_reducible refine gate_callee (f := 63) rfl ?_); refine goesM (some 18) Tryd.func63 #[.pointer (some ⟨g14006, 0, none⟩), .slice Ao129 t14014.length co129] ?_; (with_reducible refine (spec_l01Cur_edit.calls k g14006 t14003 t14017 t14018 _ _ t14014 t14020 t14021 t14022 t14025 t14026 w _ ?side1 ?side2 ?side3 ?side4 ?side5 A5.out).mono ?_); (case side1 => exact pIIsS141 HI14006); (case side2 => exact hbIsS141); (case side3 => refine (Kd.R_reads' (e := 5) (base := w.heap.size) (ok := fun k_ => (True ∧ some k_ ≠ (.slice Ao122 t14007.length co122 : Value).ownBlock)) (n := t14014.length) (c := co129) ?_).2.2; exact (by (with_reducible repeat (first | apply Kd.R_alloc | apply Kd.R_drewN | apply Kd.R_drew)); exact (Kd.R_mono (Kd.R_far (p := ⟨gb14019, 2, none⟩) (Kd.R_far (p := ⟨gb14019, 1, none⟩) (Kd.R_far (p := ⟨gb14019, 0, none⟩) (Kd.R_types HO14016.out BK14019.out (by decide)) (fun _ hk => hk.2) (.int .i64 t14012)) (fun _ hk => hk.2) (.int .i64 t14013)) (fun _ hk => hk.2) (.slice Ao129 t14014.length co129)) (fun _ h_ => h_.1)))); (case side4 => exact (Kd.R_reads' HO14016.out).2.1); (case side5 => exact far_slice (IsS141.own_ne HI14006.out HO14016.out (by decide))); rintro e w130 ⟨v14023, rfl, ho0, hi, hb, hk⟩; refine ⟨_, rfl, ?_⟩; have HO14024 := Aside0.mk (Kd.R_lower (Kd.R_new' (Kd.R_new' ho0 (Kd.R_lt (by (with_reducible repeat (first | apply Kd.R_alloc | apply Kd.R_drewN | apply Kd.R_drew)); exact (Kd.R_mono (Kd.R_far (p := ⟨gb14019, 2, none⟩) (Kd.R_far (p := ⟨gb14019, 1, none⟩) (Kd.R_far (p := ⟨gb14019, 0, none⟩) (Kd.R_types HO14009.out BK14019.out (by decide)) (fun _ hk => hk.2) (.int .i64 t14012)) (fun _ hk => hk.2) (.int .i64 t14013)) (fun _ hk => hk.2) (.slice Ao129 t14014.length co129)) (fun _ h_ => h_.1))))) (Kd.R_lt (by (with_reducible repeat (first | apply Kd.R_alloc | apply Kd.R_drewN | apply Kd.R_drew)); exact (Kd.R_mono (Kd.R_far (p := ⟨gb14019, 2, none⟩) (Kd.R_far (p := ⟨gb14019, 1, none⟩) (Kd.R_far (p := ⟨gb14019, 0, none⟩) (Kd.R_types HO14016.out BK14019.out (by decide)) (fun _ hk => hk.2) (.int .i64 t14012)) (fun _ hk => hk.2) (.int .i64 t14013)) (fun _ hk => hk.2) (.slice Ao129 t14014.length co129)) (fun _ h_ => h_.1))))) (below_size hbIsS141)); replace BK14001 := Aside0.mk (KeepBut.blk hk (g' := gb14001) (o := .cells #[.int .i64 0, .int .i64 0, .slice none 0 0] 25 (0, 0)) (by refine pB ?_; refine blk_far ?_ NB14001_14019.out _; refine pB ?_; refine blk_far ?_ NB14001_14019.out _; refine pB ?_; refine blk_far ?_ NB14001_14019.out _; refine pB ?_; exact BK14001.out) NB14001_14006.out (by simp)); replace BK14002 := Aside0.mk (KeepBut.blk hk (g' := gb14002) (o := .cells #[.int .i64 0, .int .i64 0, .slice none 0 0] 25 (0, 0)) (by refine pB ?_; refine blk_far ?_ NB14002_14019.out _; refine pB ?_; refine blk_far ?_ NB14002_14019.out _; refine pB ?_; refine blk_far ?_ NB14002_14019.out _; refine pB ?_; exact BK14002.out) NB14002_14006.out (by simp)); replace HO14009 := Aside0.mk (Kd.R_mono (Kd.R_told (Kd.R_oldK (IsS141.apart (show IsS141 w _ g14006 t14003 t14017 t14018 from pIIsS141 HI14006) (by (with_reducible repeat (first | apply Kd.R_alloc | apply Kd.R_drewN | apply Kd.R_drew)); exact (Kd.R_mono (Kd.R_far (p := ⟨gb14019, 2, none⟩) (Kd.R_far (p := ⟨gb14019, 1, none⟩) (Kd.R_far (p := ⟨gb14019, 0, none⟩) (Kd.R_types HO14009.out BK14019.out (by decide)) (fun _ hk => hk.2) (.int .i64 t14012)) (fun _ hk => hk.2) (.int .i64 t14013)) (fun _ hk => hk.2) (.slice Ao129 t14014.length co129)) (fun _ h_ => h_.1))) (by decide)) hk) (Kd.R_base ho0)) (fun _ h_ => h_.1)); replace HO14016 := Aside0.mk (Kd.R_mono (Kd.R_told (Kd.R_oldK (IsS141.apart (show IsS141 w _ g14006 t14003 t14017 t14018 from pIIsS141 HI14006) (by (with_reducible repeat (first | apply Kd.R_alloc | apply Kd.R_drewN | apply Kd.R_drew)); exact (Kd.R_mono (Kd.R_far (p := ⟨gb14019, 2, none⟩) (Kd.R_far (p := ⟨gb14019, 1, none⟩) (Kd.R_far (p := ⟨gb14019, 0, none⟩) (Kd.R_types HO14016.out BK14019.out (by decide)) (fun _ hk => hk.2) (.int .i64 t14012)) (fun _ hk => hk.2) (.int .i64 t14013)) (fun _ hk => hk.2) (.slice Ao129 t14014.length co129)) (fun _ h_ => h_.1))) (by decide)) hk) (Kd.R_base ho0)) (fun _ h_ => h_.1)); replace BK14019 := Aside0.mk (KeepBut.blk hk (g' := gb14019) (o := .cells #[.int .i64 t14012, .int .i64 t14013, .slice Ao129 t14014.length co129] 25 (0, 0)) (by refine pB ?_; refine blk_put (cs := #[.int .i64 t14012, .int .i64 t14013, .slice none 0 0]) ?_ 2 _ rfl; refine pB ?_; refine blk_put (cs := #[.int .i64 t14012, .int .i64 0, .slice none 0 0]) ?_ 1 _ rfl; refine pB ?_; refine blk_put (cs := #[.int .i64 0, .int .i64 0, .slice none 0 0]) ?_ 0 _ rfl; refine pB ?_; exact BK14019.out) NB14019_14006.out (by simp)); replace HB := Aside0.mk (hb); replace HI14006 := Aside0.mk (hi); (try clear hb); (try clear hb2); (try clear hk); (try clear hi); (try clear ho0)) | ((with_reducible refine gate_dst (N := 7) rfl ?_); refine boxE 7 #[.int .i64 0, .int .i64 0, .slice none 0 0] 25 ?_; intro gb14027 hg w131 BK14027 hb; have GW14027 := Aside0.mk (gsz hg hbIsS141 : w.heap.size ≤ gb14027); have GE14027 := GW14027; have NB14001_14027 := Aside0.mk (nbl BK14001 hg); have NB14027_14001 := Aside0.mk (nbg BK14001 hg); have NB14002_14027 := Aside0.mk (nbl BK14002 hg); have NB14027_14002 := Aside0.mk (nbg BK14002 hg); have NB14019_14027 := Aside0.mk (nbl BK14019 hg); have NB14027_14019 := Aside0.mk (nbg BK14019 hg); have NB14006_14027 := Aside0.mk ((by rw [hg]; exact Nat.ne_of_lt (IsS141.lt (show IsS141 w _ g14006 t14003 t14025 t14026 from pIIsS141 HI14006)) : g14006 ≠ gb14027)); have NB14027_14006 := Aside0.mk ((by rw [hg]; exact Nat.ne_of_gt (IsS141.lt (show IsS141 w _ g14006 t14003 t14025 t14026 from pIIsS141 HI14006)) : gb14027 ≠ g14006)); replace HO14009 := Aside0.mk (Kd.R_below (hrnR HO14009) hb); replace HO14016 := Aside0.mk (Kd.R_below (hrnR HO14016) hb); replace HO14024 := Aside0.mk (Kd.R_below (hrnR HO14024) hb); replace BK14001 := Aside0.mk (bkb BK14001 hb); replace BK14002 := Aside0.mk (bkb BK14002 hb); replace BK14019 := Aside0.mk (bkb BK14019 hb); replace HB := Aside0.mk (below_step hbIsS141 hb); replace HI14006 := Aside0.mk (IsS141.below (pIIsS141 HI14006) hb); clear hb hg; have hnb132 := NB14027_14001.out; have hnc132 := NB14001_14027.out; have hnb133 := NB14027_14002.out; have hnc133 := NB14002_14027.out; have hnb134 := NB14027_14019.out; have hnc134 := NB14019_14027.out; have hnb135 := NB14027_14006.out; have hnc135 := NB14006_14027.out; have hcz136_0 : w131.cell? ⟨gb14027, 0, none⟩ = some (.int .i64 0) := (blk_cell BK14027.out 0).trans rfl; have hcz136_1 : w131.cell? ⟨gb14027, 1, none⟩ = some (.int .i64 0) := (blk_cell BK14027.out 1).trans rfl; have hcz136_2 : w131.cell? ⟨gb14027, 2, none⟩ = some (.slice none 0 0) := (blk_cell BK14027.out 2).trans rfl; have hfz136_0 := blk_frozen BK14027.out 0; have hfz136_1 := blk_frozen BK14027.out 1; have hfz136_2 := blk_frozen BK14027.out 2; obtain ⟨Ao137, co137, eo137⟩ := Kd.R_slice HO14024.out; subst eo137; have hcz138_0 : w131.cell? ⟨gb14019, 0, none⟩ = some (.int .i64 t14012) := (blk_cell BK14019.out 0).trans rfl; have hcz138_1 : w131.cell? ⟨gb14019, 1, none⟩ = some (.int .i64 t14013) := (blk_cell BK14019.out 1).trans rfl; have hcz138_2 : w131.cell? ⟨gb14019, 2, none⟩ = some (.slice Ao129 t14014.length co129) := (blk_cell BK14019.out 2).trans rfl; have hfz138_0 := blk_frozen BK14019.out 0; have hfz138_1 := blk_frozen BK14019.out 1; have hfz138_2 := blk_frozen BK14019.out 2) | ((with_reducible refine gate_callee (f := 64) rfl ?_); refine goesM (some 26) Tryd.func64 #[.pointer (some ⟨g14006, 0, none⟩), .int .i64 9] ?_; (with_reducible refine (spec_l01Cur_pick.calls g14006 t14003 t14025 t14026 9 t14028 t14029 t14030 w _ ?side1 ?side2 A6.out).mono ?_); (case side1 => exact pIIsS141 HI14006); (case side2 => exact hbIsS141); rintro e w139 ⟨rfl, hi, hb, hk⟩; refine ⟨_, rfl, ?_⟩; replace BK14001 := Aside0.mk (KeepBut.blk hk (g' := gb14001) (o := .cells #[.int .i64 0, .int .i64 0, .slice none 0 0] 25 (0, 0)) (by refine pB ?_; refine blk_far ?_ NB14001_14027.out _; refine pB ?_; refine blk_far ?_ NB14001_14027.out _; refine pB ?_; refine blk_far ?_ NB14001_14027.out _; refine pB ?_; refine blk_far ?_ NB14001_14027.out _; refine pB ?_; exact BK14001.out) NB14001_14006.out (by simp)); replace BK14002 := Aside0.mk (KeepBut.blk hk (g' := gb14002) (o := .cells #[.int .i64 0, .int .i64 0, .slice none 0 0] 25 (0, 0)) (by refine pB ?_; refine blk_far ?_ NB14002_14027.out _; refine pB ?_; refine blk_far ?_ NB14002_14027.out _; refine pB ?_; refine blk_far ?_ NB14002_14027.out _; refine pB ?_; refine blk_far ?_ NB14002_14027.out _; refine pB ?_; exact BK14002.out) NB14002_14006.out (by simp)); replace HO14009 := Aside0.mk (Kd.R_mono (Kd.R_keep (IsS141.apart (show IsS141 w _ g14006 t14003 t14025 t14026 from pIIsS141 HI14006) (by (with_reducible repeat (first | apply Kd.R_alloc | apply Kd.R_drewN | apply Kd.R_drew)); exact (Kd.R_mono (Kd.R_far (p := ⟨gb14027, 0, none⟩) (Kd.R_far (p := ⟨gb14027, 2, none⟩) (Kd.R_far (p := ⟨gb14027, 1, none⟩) (Kd.R_far (p := ⟨gb14027, 0, none⟩) (Kd.R_types HO14009.out BK14027.out (by decide)) (fun _ hk => hk.2) (.int .i64 t14020)) (fun _ hk => hk.2) (.int .i64 t14021)) (fun _ hk => hk.2) (.slice Ao137 t14022.length co137)) (fun _ hk => hk.2) (.int .i64 (wrap64 (t14020 + t14012)))) (fun _ h_ => h_.1))) (by decide)) hk (fun _ h => h.2)) (fun _ h => h.1)); replace HO14016 := Aside0.mk (Kd.R_mono (Kd.R_keep (IsS141.apart (show IsS141 w _ g14006 t14003 t14025 t14026 from pIIsS141 HI14006) (by (with_reducible repeat (first | apply Kd.R_alloc | apply Kd.R_drewN | apply Kd.R_drew)); exact (Kd.R_mono (Kd.R_far (p := ⟨gb14027, 0, none⟩) (Kd.R_far (p := ⟨gb14027, 2, none⟩) (Kd.R_far (p := ⟨gb14027, 1, none⟩) (Kd.R_far (p := ⟨gb14027, 0, none⟩) (Kd.R_types HO14016.out BK14027.out (by decide)) (fun _ hk => hk.2) (.int .i64 t14020)) (fun _ hk => hk.2) (.int .i64 t14021)) (fun _ hk => hk.2) (.slice Ao137 t14022.length co137)) (fun _ hk => hk.2) (.int .i64 (wrap64 (t14020 + t14012)))) (fun _ h_ => h_.1))) (by decide)) hk (fun _ h => h.2)) (fun _ h => h.1)); replace BK14019 := Aside0.mk (KeepBut.blk hk (g' := gb14019) (o := .cells #[.int .i64 t14012, .int .i64 t14013, .slice Ao129 t14014.length co129] 25 (0, 0)) (by refine pB ?_; refine blk_far ?_ NB14019_14027.out _; refine pB ?_; refine blk_far ?_ NB14019_14027.out _; refine pB ?_; refine blk_far ?_ NB14019_14027.out _; refine pB ?_; refine blk_far ?_ NB14019_14027.out _; refine pB ?_; exact BK14019.out) NB14019_14006.out (by simp)); replace HO14024 := Aside0.mk (Kd.R_mono (Kd.R_keep (IsS141.apart (show IsS141 w _ g14006 t14003 t14025 t14026 from pIIsS141 HI14006) (by (with_reducible repeat (first | apply Kd.R_alloc | apply Kd.R_drewN | apply Kd.R_drew)); exact (Kd.R_mono (Kd.R_far (p := ⟨gb14027, 0, none⟩) (Kd.R_far (p := ⟨gb14027, 2, none⟩) (Kd.R_far (p := ⟨gb14027, 1, none⟩) (Kd.R_far (p := ⟨gb14027, 0, none⟩) (Kd.R_types HO14024.out BK14027.out (by decide)) (fun _ hk => hk.2) (.int .i64 t14020)) (fun _ hk => hk.2) (.int .i64 t14021)) (fun _ hk => hk.2) (.slice Ao137 t14022.length co137)) (fun _ hk => hk.2) (.int .i64 (wrap64 (t14020 + t14012)))) (fun _ h_ => h_.1))) (by decide)) hk (fun _ h => h.2)) (fun _ h => h.1)); replace BK14027 := Aside0.mk (KeepBut.blk hk (g' := gb14027) (o := .cells #[.int .i64 (wrap64 (t14020 + t14012)), .int .i64 t14021, .slice Ao137 t14022.length co137] 25 (0, 0)) (by refine pB ?_; refine blk_put (cs := #[.int .i64 t14020, .int .i64 t14021, .slice Ao137 t14022.length co137]) ?_ 0 _ rfl; refine pB ?_; refine blk_put (cs := #[.int .i64 t14020, .int .i64 t14021, .slice none 0 0]) ?_ 2 _ rfl; refine pB ?_; refine blk_put (cs := #[.int .i64 t14020, .int .i64 0, .slice none 0 0]) ?_ 1 _ rfl; refine pB ?_; refine blk_put (cs := #[.int .i64 0, .int .i64 0, .slice none 0 0]) ?_ 0 _ rfl; refine pB ?_; exact BK14027.out) NB14027_14006.out (by simp)); replace HB := Aside0.mk (hb); replace HI14006 := Aside0.mk (hi); (try clear hb); (try clear hb2); (try clear hk); (try clear hi)))
    replace HO14009 := Aside0.mk (Kd.R_drew HO14009.out)
    replace HO14016 := Aside0.mk (Kd.R_drew HO14016.out)
    replace HO14024 := Aside0.mk (Kd.R_drew HO14024.out)
    replace BK14001 := Aside0.mk (blk_drew BK14001.out)
    replace BK14002 := Aside0.mk (blk_drew BK14002.out)
    replace BK14019 := Aside0.mk (blk_drew BK14019.out)
    replace BK14027 := Aside0.mk (blk_drew BK14027.out)
    replace HI14006 := Aside0.mk (IsS141.drew HI14006.out)
    replace HB := Aside0.mk (below_drew1 HB.out)
    refine start_ (n := 4) (S := fun w' => w'.cell? ⟨gb14019, 0, none⟩ = some (.int .i64 t14012) ∧ w'.cell? ⟨gb14019, 1, none⟩ = some (.int .i64 t14013) ∧ w'.cell? ⟨gb14019, 2, none⟩ = some (.slice Ao129 t14014.length co129) ∧ w'.cell? ⟨gb14027, 0, none⟩ = some (.int .i64 (wrap64 (t14020 + t14012))) ∧ w'.cell? ⟨gb14027, 1, none⟩ = some (.int .i64 t14021) ∧ w'.cell? ⟨gb14027, 2, none⟩ = some (.slice Ao137 t14022.length co137)) (ds := []) #[false, false, false, false] (by kernel_rfl) rfl rfl ⟨(blk_cell BK14019.out 0).trans rfl, (blk_cell BK14019.out 1).trans rfl, (blk_cell BK14019.out 2).trans rfl, (blk_cell BK14027.out 0).trans rfl, (blk_cell BK14027.out 1).trans rfl, (blk_cell BK14027.out 2).trans rfl⟩ (fun hHeld => ?_)
    generalize w139.drew = w140 at HO14009 HO14016 HO14024 BK14001 BK14002 BK14019 BK14027 HI14006 HB hHeld ⊢
    refine take_ (i := 0) (N := some 47) (v := ?_) (a' := ?_) #[true, false, false, false] rfl rfl (by kernel_rfl) (fun _ _ _ h => h) (Or.inl ⟨by rfl, ?_⟩) hHeld ?_ ?_
    rotate_left
    ·rintro w' ⟨s0, s1, s2, s3, s4, s5⟩
     go_simp
     with_reducible rfl
    rotate_left
    ·simp only [Act.put, List.setIfInBounds_toArray, List.set_cons_zero, List.set_cons_succ, i64_w, i32_w]
     rfl
    refine take_ (i := 1) (N := some 48) (v := ?_) (a' := ?_) #[true, true, false, false] rfl rfl (by kernel_rfl) (fun _ _ _ h => h) (Or.inl ⟨by rfl, ?_⟩) hHeld ?_ ?_
    rotate_left
    ·rintro w' ⟨s0, s1, s2, s3, s4, s5⟩
     go_simp
     with_reducible rfl
    rotate_left
    ·simp only [Act.put, List.setIfInBounds_toArray, List.set_cons_zero, List.set_cons_succ, i64_w, i32_w]
     rfl
    refine one_ (i := 2) (N := none) #[true, true, true, false] rfl rfl (by kernel_rfl) (by decide) (fun K hK => ?_)
    have hs141 : w140.cell? ⟨gb14001, 0, none⟩ = some (.int .i64 0) := (blk_cell BK14001.out 0).trans rfl
    have hfs141 := blk_frozen BK14001.out 0
    have hns141_1 := NB14002_14001.out
    have hns141_2 := NB14019_14001.out
    have hns141_3 := NB14027_14001.out
    have hms141_1 := NB14001_14002.out
    have hms141_2 := NB14001_14019.out
    have hms141_3 := NB14001_14027.out
    have hs142 : w140.cell? ⟨gb14001, 1, none⟩ = some (.int .i64 0) := (blk_cell BK14001.out 1).trans rfl
    have hfs142 := blk_frozen BK14001.out 1
    have hns142_1 := NB14002_14001.out
    have hns142_2 := NB14019_14001.out
    have hns142_3 := NB14027_14001.out
    have hms142_1 := NB14001_14002.out
    have hms142_2 := NB14001_14019.out
    have hms142_3 := NB14001_14027.out
    have hs143 : w140.cell? ⟨gb14001, 2, none⟩ = some (.slice none 0 0) := (blk_cell BK14001.out 2).trans rfl
    have hfs143 := blk_frozen BK14001.out 2
    have hns143_1 := NB14002_14001.out
    have hns143_2 := NB14019_14001.out
    have hns143_3 := NB14027_14001.out
    have hms143_1 := NB14001_14002.out
    have hms143_2 := NB14001_14019.out
    have hms143_3 := NB14001_14027.out
    refine skip_ (w1 := ?_) (by rfl) rfl ?_ ?_
    rotate_left
    ·go_simp
     rfl
    refine hK.out _ _ ⟨((cell_far (p := ⟨gb14001, _, none⟩) NB14019_14001.out _).trans (((cell_far (p := ⟨gb14001, _, none⟩) NB14019_14001.out _).trans (((cell_far (p := ⟨gb14001, _, none⟩) NB14019_14001.out _).trans (hHeld.1)))))), ((cell_far (p := ⟨gb14001, _, none⟩) NB14019_14001.out _).trans (((cell_far (p := ⟨gb14001, _, none⟩) NB14019_14001.out _).trans (((cell_far (p := ⟨gb14001, _, none⟩) NB14019_14001.out _).trans (hHeld.2.1)))))), ((cell_far (p := ⟨gb14001, _, none⟩) NB14019_14001.out _).trans (((cell_far (p := ⟨gb14001, _, none⟩) NB14019_14001.out _).trans (((cell_far (p := ⟨gb14001, _, none⟩) NB14019_14001.out _).trans (hHeld.2.2.1)))))), ((cell_far (p := ⟨gb14001, _, none⟩) NB14027_14001.out _).trans (((cell_far (p := ⟨gb14001, _, none⟩) NB14027_14001.out _).trans (((cell_far (p := ⟨gb14001, _, none⟩) NB14027_14001.out _).trans (hHeld.2.2.2.1)))))), ((cell_far (p := ⟨gb14001, _, none⟩) NB14027_14001.out _).trans (((cell_far (p := ⟨gb14001, _, none⟩) NB14027_14001.out _).trans (((cell_far (p := ⟨gb14001, _, none⟩) NB14027_14001.out _).trans (hHeld.2.2.2.2.1)))))), ((cell_far (p := ⟨gb14001, _, none⟩) NB14027_14001.out _).trans (((cell_far (p := ⟨gb14001, _, none⟩) NB14027_14001.out _).trans (((cell_far (p := ⟨gb14001, _, none⟩) NB14027_14001.out _).trans (hHeld.2.2.2.2.2))))))⟩ (fun hHeld => ?_)
    clear hK K
    refine one_ (i := 3) (N := none) #[true, true, true, true] rfl rfl (by kernel_rfl) (by decide) (fun K hK => ?_)
    have hs144 : w140.cell? ⟨gb14002, 0, none⟩ = some (.int .i64 0) := (blk_cell BK14002.out 0).trans rfl
    have hfs144 := blk_frozen BK14002.out 0
    have hns144_0 := NB14001_14002.out
    have hns144_2 := NB14019_14002.out
    have hns144_3 := NB14027_14002.out
    have hms144_0 := NB14002_14001.out
    have hms144_2 := NB14002_14019.out
    have hms144_3 := NB14002_14027.out
    have hs145 : w140.cell? ⟨gb14002, 1, none⟩ = some (.int .i64 0) := (blk_cell BK14002.out 1).trans rfl
    have hfs145 := blk_frozen BK14002.out 1
    have hns145_0 := NB14001_14002.out
    have hns145_2 := NB14019_14002.out
    have hns145_3 := NB14027_14002.out
    have hms145_0 := NB14002_14001.out
    have hms145_2 := NB14002_14019.out
    have hms145_3 := NB14002_14027.out
    have hs146 : w140.cell? ⟨gb14002, 2, none⟩ = some (.slice none 0 0) := (blk_cell BK14002.out 2).trans rfl
    have hfs146 := blk_frozen BK14002.out 2
    have hns146_0 := NB14001_14002.out
    have hns146_2 := NB14019_14002.out
    have hns146_3 := NB14027_14002.out
    have hms146_0 := NB14002_14001.out
    have hms146_2 := NB14002_14019.out
    have hms146_3 := NB14002_14027.out
    refine skip_ (w1 := ?_) (by rfl) rfl ?_ ?_
    rotate_left
    ·go_simp
     rfl
    refine hK.out _ _ ⟨((cell_far (p := ⟨gb14002, _, none⟩) NB14019_14002.out _).trans (((cell_far (p := ⟨gb14002, _, none⟩) NB14019_14002.out _).trans (((cell_far (p := ⟨gb14002, _, none⟩) NB14019_14002.out _).trans (hHeld.1)))))), ((cell_far (p := ⟨gb14002, _, none⟩) NB14019_14002.out _).trans (((cell_far (p := ⟨gb14002, _, none⟩) NB14019_14002.out _).trans (((cell_far (p := ⟨gb14002, _, none⟩) NB14019_14002.out _).trans (hHeld.2.1)))))), ((cell_far (p := ⟨gb14002, _, none⟩) NB14019_14002.out _).trans (((cell_far (p := ⟨gb14002, _, none⟩) NB14019_14002.out _).trans (((cell_far (p := ⟨gb14002, _, none⟩) NB14019_14002.out _).trans (hHeld.2.2.1)))))), ((cell_far (p := ⟨gb14002, _, none⟩) NB14027_14002.out _).trans (((cell_far (p := ⟨gb14002, _, none⟩) NB14027_14002.out _).trans (((cell_far (p := ⟨gb14002, _, none⟩) NB14027_14002.out _).trans (hHeld.2.2.2.1)))))), ((cell_far (p := ⟨gb14002, _, none⟩) NB14027_14002.out _).trans (((cell_far (p := ⟨gb14002, _, none⟩) NB14027_14002.out _).trans (((cell_far (p := ⟨gb14002, _, none⟩) NB14027_14002.out _).trans (hHeld.2.2.2.2.1)))))), ((cell_far (p := ⟨gb14002, _, none⟩) NB14027_14002.out _).trans (((cell_far (p := ⟨gb14002, _, none⟩) NB14027_14002.out _).trans (((cell_far (p := ⟨gb14002, _, none⟩) NB14027_14002.out _).trans (hHeld.2.2.2.2.2))))))⟩ (fun hHeld => ?_)
    clear hK K
    refine done_ (by kernel_rfl) ?_
    try go_wp2
    refine bodyPost_ret (results_cc rfl _ _ gb14001 gb14002 25 25 #[.int .i64 t14012, .int .i64 t14013, .slice Ao129 t14014.length co129] #[.int .i64 (wrap64 (t14020 + t14012)), .int .i64 t14021, .slice Ao137 t14022.length co137] (0, 0) (0, 0) _ _ rfl (by refine pB ?_; refine blk_far ?_ NB14001_14002.out _; refine pB ?_; refine blk_far ?_ NB14001_14002.out _; refine pB ?_; refine blk_far ?_ NB14001_14002.out _; refine pB ?_; refine blk_put (cs := #[.int .i64 t14012, .int .i64 t14013, .slice none 0 0]) ?_ 2 _ rfl; refine pB ?_; refine blk_put (cs := #[.int .i64 t14012, .int .i64 0, .slice none 0 0]) ?_ 1 _ rfl; refine pB ?_; refine blk_put (cs := #[.int .i64 0, .int .i64 0, .slice none 0 0]) ?_ 0 _ rfl; refine pB ?_; exact BK14001.out) Tryd.underlying25 rfl (by kernel_rfl) rfl (by refine pB ?_; refine blk_put (cs := #[.int .i64 (wrap64 (t14020 + t14012)), .int .i64 t14021, .slice none 0 0]) ?_ 2 _ rfl; refine pB ?_; refine blk_put (cs := #[.int .i64 (wrap64 (t14020 + t14012)), .int .i64 0, .slice none 0 0]) ?_ 1 _ rfl; refine pB ?_; refine blk_put (cs := #[.int .i64 0, .int .i64 0, .slice none 0 0]) ?_ 0 _ rfl; refine pB ?_; refine blk_far ?_ NB14002_14001.out _; refine pB ?_; refine blk_far ?_ NB14002_14001.out _; refine pB ?_; refine blk_far ?_ NB14002_14001.out _; refine pB ?_; exact BK14002.out) Tryd.underlying25 rfl (by kernel_rfl)) rfl ?_
    exact ⟨_, _, erf, by (with_reducible repeat (first | apply Kd.R_alloc | apply Kd.R_drewN | apply Kd.R_drew)); exact Kd.R_mono (Kd.R_far (p := ⟨gb14002, 2, none⟩) (Kd.R_far (p := ⟨gb14002, 1, none⟩) (Kd.R_far (p := ⟨gb14002, 0, none⟩) (Kd.R_far (p := ⟨gb14001, 2, none⟩) (Kd.R_far (p := ⟨gb14001, 1, none⟩) (Kd.R_far (p := ⟨gb14001, 0, none⟩) (Kd.R_types (Kd.R_types HO14016.out BK14001.out (by decide)) BK14002.out (by decide)) (fun _ hk => hk.1.2) (.int .i64 t14012)) (fun _ hk => hk.1.2) (.int .i64 t14013)) (fun _ hk => hk.1.2) (.slice Ao129 t14014.length co129)) (fun _ hk => hk.2) (.int .i64 (wrap64 (t14020 + t14012)))) (fun _ hk => hk.2) (.int .i64 t14021)) (fun _ hk => hk.2) (.slice Ao137 t14022.length co137)) (fun _ hk => hk.1.1.2), by (with_reducible repeat (first | apply Kd.R_alloc | apply Kd.R_drewN | apply Kd.R_drew)); exact Kd.R_mono (Kd.R_far (p := ⟨gb14002, 2, none⟩) (Kd.R_far (p := ⟨gb14002, 1, none⟩) (Kd.R_far (p := ⟨gb14002, 0, none⟩) (Kd.R_far (p := ⟨gb14001, 2, none⟩) (Kd.R_far (p := ⟨gb14001, 1, none⟩) (Kd.R_far (p := ⟨gb14001, 0, none⟩) (Kd.R_types (Kd.R_types HO14024.out BK14001.out (by decide)) BK14002.out (by decide)) (fun _ hk => hk.1.2) (.int .i64 t14012)) (fun _ hk => hk.1.2) (.int .i64 t14013)) (fun _ hk => hk.1.2) (.slice Ao129 t14014.length co129)) (fun _ hk => hk.2) (.int .i64 (wrap64 (t14020 + t14012)))) (fun _ hk => hk.2) (.int .i64 t14021)) (fun _ hk => hk.2) (.slice Ao137 t14022.length co137)) (fun _ hk => hk.1.1.2), hbIsS141⟩
def spec_l02Small.f (a0 : Int) : Option (Bool) := if a0 ≥ 0 then (some (decide (a0 ≤ 400))) else (some false)
set_option maxHeartbeats 8000000 in
set_option maxRecDepth 100000 in
theorem spec_l02Small.calls (a0 : Int) (r : Bool) (w : World) (h : spec_l02Small.f a0 = some r) :
  Calls Tryd.prog 122 #[.int .i64 a0] w fun e w' => e = .returned (.bool r) ∧ Drawn0 w w' := by
 have H : (if a0 ≥ 0 then (some (decide (a0 ≤ 400))) else (some false)) = some r := h
 clear h
 by_cases c2 : a0 ≥ 0
 ·rw [if_pos c2] at H
  have c2b0 : decide (0 ≤ a0) = true := decide_eq_true c2
  clear c2
  obtain rfl := Option.some.inj H
  go_enter Tryd.func122, Tryd.ntmps122
  go_wp2
  go_ret
  exact ⟨by first | rfl | (simp; done) | (simp [*]; done), by repeat (first | exact Drawn0.refl _ | apply Drawn0.step)⟩
 ·rw [if_neg c2] at H
  have c2b0 : decide (0 ≤ a0) = false := decide_eq_false c2
  clear c2
  obtain rfl := Option.some.inj H
  go_enter Tryd.func122, Tryd.ntmps122
  go_wp2
  go_ret
  exact ⟨by first | rfl | (simp; done) | (simp [*]; done), by repeat (first | exact Drawn0.refl _ | apply Drawn0.step)⟩
def spec_l05Small.f (a0_0 : Int) (a0_1 : Int) (l0_2 : List Int) : Option (Bool) := (spec_l02Small.f a0_0).bind fun t67002 => (if t67002 = true then ((spec_l02Small.f a0_1).bind fun t67003 => (if t67003 = true then (some (decide ((l0_2.length : Int) ≤ 400))) else (some false))) else (some false))
set_option maxHeartbeats 8000000 in
set_option maxRecDepth 100000 in
theorem spec_l05Small.calls (a0_0 : Int) (a0_1 : Int) (A0_2 : Option Addr) (c0_2 : Nat) (l0_2 : List Int) (r : Bool) (w : World) (hr0_2 : Kd.C (Kd.int .u8) w A0_2 l0_2.length l0_2) (hc0_2 : l0_2.length ≤ c0_2) (h : spec_l05Small.f a0_0 a0_1 l0_2 = some r) :
  Calls Tryd.prog 66 #[.agg #[.int .i64 a0_0, .int .i64 a0_1, .slice A0_2 l0_2.length c0_2]] w fun e w' => e = .returned (.bool r) ∧ Below w.heap.size w w' := by
 have hu25 := Tryd.underlying25
 have HR0_2 := Aside0.mk hr0_2
 have HC0_2 := Aside0.mk hc0_2
 clear hr0_2 hc0_2
 have HB := Aside0.mk (Below.refl w.heap.size w)
 have H : ((spec_l02Small.f a0_0).bind fun t67002 => (if t67002 = true then ((spec_l02Small.f a0_1).bind fun t67003 => (if t67003 = true then (some (decide ((l0_2.length : Int) ≤ 400))) else (some false))) else (some false))) = some r := h
 clear h
 replace H := Option.bind_eq_some_iff.mp H
 obtain ⟨t67002, A20, H⟩ := H
 replace H : (if t67002 = true then ((spec_l02Small.f a0_1).bind fun t67003 => (if t67003 = true then (some (decide ((l0_2.length : Int) ≤ 400))) else (some false))) else (some false)) = some r := H
 have A2 := Aside0.mk A20
 clear A20
 by_cases c3 : t67002 = true
 ·subst c3
  have H1 : ((spec_l02Small.f a0_1).bind fun t67003 => (if t67003 = true then (some (decide ((l0_2.length : Int) ≤ 400))) else (some false))) = some r := by rw [if_pos rfl] at H; exact H
  clear H
  have H := H1
  clear H1
  replace H := Option.bind_eq_some_iff.mp H
  obtain ⟨t67003, A40, H⟩ := H
  replace H : (if t67003 = true then (some (decide ((l0_2.length : Int) ≤ 400))) else (some false)) = some r := H
  have A4 := Aside0.mk A40
  clear A40
  by_cases c5 : t67003 = true
  ·subst c5
   have H1 : (some (decide ((l0_2.length : Int) ≤ 400))) = some r := by rw [if_pos rfl] at H; exact H
   clear H
   have H := H1
   clear H1
   obtain rfl := Option.some.inj H
   go_enter Tryd.func66, Tryd.ntmps66
   go_wp2_with (first | ((with_reducible refine gate_dst (N := 1) rfl ?_); (try (refine gate_guard (by rfl) ?_; dsimp only)); refine boxE 1 #[.int .i64 a0_0, .int .i64 a0_1, .slice A0_2 l0_2.length c0_2] 25 ?_; intro gb67001 hg w6 BK67001 hb; have GW67001 := Aside0.mk (gsz hg hbw : w.heap.size ≤ gb67001); have GE67001 := GW67001; replace HB := Aside0.mk (below_step hbw hb); clear hb hg; have hcz7_0 : w6.cell? ⟨gb67001, 0, none⟩ = some (.int .i64 a0_0) := (blk_cell BK67001.out 0).trans rfl; have hcz7_1 : w6.cell? ⟨gb67001, 1, none⟩ = some (.int .i64 a0_1) := (blk_cell BK67001.out 1).trans rfl; have hcz7_2 : w6.cell? ⟨gb67001, 2, none⟩ = some (.slice A0_2 l0_2.length c0_2) := (blk_cell BK67001.out 2).trans rfl; have hfz7_0 := blk_frozen BK67001.out 0; have hfz7_1 := blk_frozen BK67001.out 1; have hfz7_2 := blk_frozen BK67001.out 2) | ((with_reducible refine gate_callee (f := 122) rfl ?_); refine goesM (some 5) Tryd.func122 #[.int .i64 a0_0] ?_; (with_reducible refine (spec_l02Small.calls a0_0 true _ A2.out).mono ?_); rintro e w' ⟨rfl, ⟨nd, rfl⟩⟩; refine ⟨_, rfl, ?_⟩) | (go_at_call 122; (with_reducible refine (spec_l02Small.calls a0_1 true _ A4.out).mono ?_); rintro e w' ⟨rfl, ⟨nd, rfl⟩⟩))
   go_ret
   exact ⟨erf, hbs⟩
  ·replace c5 := Bool.eq_false_iff.mpr c5
   subst c5
   have H1 : (some false) = some r := by rw [if_neg (show ¬ (false = true) by decide)] at H; exact H
   clear H
   have H := H1
   clear H1
   obtain rfl := Option.some.inj H
   go_enter Tryd.func66, Tryd.ntmps66
   go_wp2_with (first | ((with_reducible refine gate_dst (N := 1) rfl ?_); (try (refine gate_guard (by rfl) ?_; dsimp only)); refine boxE 1 #[.int .i64 a0_0, .int .i64 a0_1, .slice A0_2 l0_2.length c0_2] 25 ?_; intro gb67001 hg w8 BK67001 hb; have GW67001 := Aside0.mk (gsz hg hbw : w.heap.size ≤ gb67001); have GE67001 := GW67001; replace HB := Aside0.mk (below_step hbw hb); clear hb hg; have hcz9_0 : w8.cell? ⟨gb67001, 0, none⟩ = some (.int .i64 a0_0) := (blk_cell BK67001.out 0).trans rfl; have hcz9_1 : w8.cell? ⟨gb67001, 1, none⟩ = some (.int .i64 a0_1) := (blk_cell BK67001.out 1).trans rfl; have hcz9_2 : w8.cell? ⟨gb67001, 2, none⟩ = some (.slice A0_2 l0_2.length c0_2) := (blk_cell BK67001.out 2).trans rfl; have hfz9_0 := blk_frozen BK67001.out 0; have hfz9_1 := blk_frozen BK67001.out 1; have hfz9_2 := blk_frozen BK67001.out 2) | ((with_reducible refine gate_callee (f := 122) rfl ?_); refine goesM (some 5) Tryd.func122 #[.int .i64 a0_0] ?_; (with_reducible refine (spec_l02Small.calls a0_0 true _ A2.out).mono ?_); rintro e w' ⟨rfl, ⟨nd, rfl⟩⟩; refine ⟨_, rfl, ?_⟩) | (go_at_call 122; (with_reducible refine (spec_l02Small.calls a0_1 false _ A4.out).mono ?_); rintro e w' ⟨rfl, ⟨nd, rfl⟩⟩))
   go_ret
   exact ⟨erf, hbs⟩
 ·replace c3 := Bool.eq_false_iff.mpr c3
  subst c3
  have H1 : (some false) = some r := by rw [if_neg (show ¬ (false = true) by decide)] at H; exact H
  clear H
  have H := H1
  clear H1
  obtain rfl := Option.some.inj H
  go_enter Tryd.func66, Tryd.ntmps66
  go_wp2_with (first | ((with_reducible refine gate_dst (N := 1) rfl ?_); (try (refine gate_guard (by rfl) ?_; dsimp only)); refine boxE 1 #[.int .i64 a0_0, .int .i64 a0_1, .slice A0_2 l0_2.length c0_2] 25 ?_; intro gb67001 hg w10 BK67001 hb; have GW67001 := Aside0.mk (gsz hg hbw : w.heap.size ≤ gb67001); have GE67001 := GW67001; replace HB := Aside0.mk (below_step hbw hb); clear hb hg; have hcz11_0 : w10.cell? ⟨gb67001, 0, none⟩ = some (.int .i64 a0_0) := (blk_cell BK67001.out 0).trans rfl; have hcz11_1 : w10.cell? ⟨gb67001, 1, none⟩ = some (.int .i64 a0_1) := (blk_cell BK67001.out 1).trans rfl; have hcz11_2 : w10.cell? ⟨gb67001, 2, none⟩ = some (.slice A0_2 l0_2.length c0_2) := (blk_cell BK67001.out 2).trans rfl; have hfz11_0 := blk_frozen BK67001.out 0; have hfz11_1 := blk_frozen BK67001.out 1; have hfz11_2 := blk_frozen BK67001.out 2) | ((with_reducible refine gate_callee (f := 122) rfl ?_); refine goesM (some 5) Tryd.func122 #[.int .i64 a0_0] ?_; (with_reducible refine (spec_l02Small.calls a0_0 false _ A2.out).mono ?_); rintro e w' ⟨rfl, ⟨nd, rfl⟩⟩; refine ⟨_, rfl, ?_⟩))
  go_ret
  exact ⟨erf, hbs⟩
end Go.Proofs.YteapbiiffcchbaaDoor.P
