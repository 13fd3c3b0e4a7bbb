/- The law FnEditJoin (the joined edit has the effect of both edits) returns true for every input and leaves its input as it was; conditions: the two tables of unicode/utf8 hold what the program's text lays (tied by the card). Part 4 of 6: joined by a program of the session's (wip/pack.py) out of its own texts and of the printed words, without remarks and without what nothing names. Not trusted: Lean checks it. -/
import Derived.Test.YteapbiiffcchbaaDoorJ3
import Derived.Lib.SliceRun
import Derived.Deep.Draws
import Derived.OwnWalk
namespace Go.Proofs.YteapbiiffcchbaaDoor.P
open Go.Proofs.YteapbiiffcchbaaDoor.G
open Go.RowKit Go.Proofs.YteapbiiffcchbaaDoorW.PrintWords Go.Proofs.YteapbiiffcchbaaDoorW.PrintLast Go.Proofs.YteapbiiffcchbaaDoorW.PrintMore
attribute [local go_sem] max2_int min2_int max_two min_two max_three min_three max_four min_four
set_option linter.unusedVariables false
set_option linter.unusedSimpArgs false
def spec_EditJoin.j0 : Nat → Bool → Int → Int → List Int → Int → Int → List Int → Option (Int × Int × List Int × Bool)
 | 0, _, _, _, _, _, _, _ => none
 | k + 1, x36, x15002000, x15002001, x15002002, x15003000, x15003001, x15003002 => if x36 = true then (some (0, 0, ([] : List Int), false)) else ((some (([] : List Int) : List Int)).bind fun y15006 => (if 0 ≤ (wrap64 (x15003000 - x15002000)) then (if (wrap64 (x15003000 - x15002000)) ≤ (x15002002.length : Int) then (if y15006.length + (x15002002.take ((wrap64 (x15003000 - x15002000)) : Int).toNat).length < 140737488355328 then ((some (y15006 ++ (x15002002.take ((wrap64 (x15003000 - x15002000)) : Int).toNat) : List Int)).bind fun y15010 => (if y15010.length + x15003002.length < 140737488355328 then ((some (y15010 ++ x15003002 : List Int)).bind fun y15013 => (if 0 ≤ (wrap64 ((wrap64 (x15003000 - x15002000)) + x15003001)) then (if (wrap64 ((wrap64 (x15003000 - x15002000)) + x15003001)) ≤ (x15002002.length : Int) then (if y15013.length + (x15002002.drop ((wrap64 ((wrap64 (x15003000 - x15002000)) + x15003001)) : Int).toNat).length < 140737488355328 then ((some (y15013 ++ (x15002002.drop ((wrap64 ((wrap64 (x15003000 - x15002000)) + x15003001)) : Int).toNat) : List Int)).bind fun y15017 => (if (y15017.length : Int) > 400 then (some (0, 0, ([] : List Int), false)) else (some (x15002000, x15002001, y15017, true)))) else (none)) else (none)) else (none))) else (none))) else (none)) else (none)) else (none)))
def spec_EditJoin.f (k : Nat) (a0_0 : Int) (a0_1 : Int) (l0_2 : List Int) (a1_0 : Int) (a1_1 : Int) (l1_2 : List Int) : Option (Int × Int × List Int × Bool) := (spec_l05Small.f a0_0 a0_1 l0_2).bind fun t15004 => (if t15004 = true then ((spec_l05Small.f a1_0 a1_1 l1_2).bind fun t15005 => (if t15005 = true then (if a1_0 < a0_0 then (spec_EditJoin.j0 k true a0_0 a0_1 l0_2 a1_0 a1_1 l1_2) else (spec_EditJoin.j0 k (decide ((wrap64 (a1_0 + a1_1)) > (wrap64 (a0_0 + (l0_2.length : Int))))) a0_0 a0_1 l0_2 a1_0 a1_1 l1_2)) else (spec_EditJoin.j0 k true a0_0 a0_1 l0_2 a1_0 a1_1 l1_2))) else (spec_EditJoin.j0 k true a0_0 a0_1 l0_2 a1_0 a1_1 l1_2))
theorem spec_EditJoin.mono_l : ∀ k, (∀ y0 y1 y2 y3 y4 y5 y6, LeO (spec_EditJoin.j0 k y0 y1 y2 y3 y4 y5 y6) (spec_EditJoin.j0 (k + 1) y0 y1 y2 y3 y4 y5 y6))
 | 0 => fun _ _ _ _ _ _ _ r h => by simp [spec_EditJoin.j0] at h
 | k + 1 => by
  have ih0 := spec_EditJoin.mono_l k
  ·intro y0 y1 y2 y3 y4 y5 y6
   unfold spec_EditJoin.j0
   repeat' first
   | (with_reducible exact ih0 _ _ _ _ _ _ _)
   | (with_reducible exact LeO.refl _)
   | (with_reducible exact LeO.none _)
   | (with_reducible refine LeO.ite ?_ ?_)
   | (with_reducible refine LeO.bind ?_ (fun _ => ?_))
   | exact ih0 _ _ _ _ _ _ _
   | exact LeO.none _
   | refine LeO.ite ?_ ?_
   | refine LeO.bind ?_ (fun _ => ?_)
theorem spec_EditJoin.mono : ∀ a0 a1 a2 a3 a4 a5 k, LeO (spec_EditJoin.f k a0 a1 a2 a3 a4 a5) (spec_EditJoin.f (k + 1) a0 a1 a2 a3 a4 a5) := by
 intro a0 a1 a2 a3 a4 a5 k
 have ih0 := spec_EditJoin.mono_l k
 unfold spec_EditJoin.f
 repeat' first
   | (with_reducible exact ih0 _ _ _ _ _ _ _)
   | (with_reducible exact LeO.refl _)
   | (with_reducible exact LeO.none _)
   | (with_reducible refine LeO.ite ?_ ?_)
   | (with_reducible refine LeO.bind ?_ (fun _ => ?_))
   | exact ih0 _ _ _ _ _ _ _
   | exact LeO.none _
   | refine LeO.ite ?_ ?_
   | refine LeO.bind ?_ (fun _ => ?_)
def spec_EditJoin.T4 : Bool × List (List Nat × List Nat) := (true, [([], []), ([], []), ([1], [1]), ([], []), ([2, 3], [2, 3]), ([0, 4], [0, 4]), ([], []), ([6], [6]), ([5, 7, 5], [5, 7]), ([], []), ([9], [9]), ([], []), ([], []), ([12], [12]), ([11, 13], [11, 13]), ([10, 14], [10, 14]), ([8, 15, 8], [8, 15]), ([16, 16, 0, 1, 2, 3, 4, 5, 6, 7, 8, 9, 10, 11, 12, 13, 14, 15, 16], [16])])
def spec_EditJoin.B4 : List Nat := [0, 0, 2, 0, 14, 31, 0, 64, 255, 0, 512, 0, 0, 4096, 14336, 32256, 65535, 131071]
theorem spec_EditJoin.tab4 : rtab .any (opsOf Tryd.f14 4) = spec_EditJoin.T4 := by kernel_rfl
theorem spec_EditJoin.bits4 : waitsOk spec_EditJoin.T4.2 spec_EditJoin.B4 = true := by kernel_rfl
set_option maxHeartbeats 8000000 in
set_option maxRecDepth 100000 in
theorem spec_EditJoin.calls (k : Nat) (a0_0 : Int) (a0_1 : Int) (A0_2 : Option Addr) (c0_2 : Nat) (l0_2 : List Int) (a1_0 : Int) (a1_1 : Int) (A1_2 : Option Addr) (c1_2 : Nat) (l1_2 : List Int) (r1 : Int) (r2 : Int) (r3 : List Int) (r4 : Bool) (w : World) (hr0_2 : Kd.C (Kd.int .u8) w A0_2 l0_2.length l0_2) (hc0_2 : l0_2.length ≤ c0_2) (hr1_2 : Kd.C (Kd.int .u8) w A1_2 l1_2.length l1_2) (hc1_2 : l1_2.length ≤ c1_2) (h : spec_EditJoin.f k a0_0 a0_1 l0_2 a1_0 a1_1 l1_2 = some (r1, r2, r3, r4)) :
  Calls Tryd.prog 14 #[.agg #[.int .i64 a0_0, .int .i64 a0_1, .slice A0_2 l0_2.length c0_2], .agg #[.int .i64 a1_0, .int .i64 a1_1, .slice A1_2 l1_2.length c1_2]] w fun e w' => ∃ v2_ : Value, e = .returned (.tuple #[.agg #[.int .i64 r1, .int .i64 r2, v2_], .bool r4]) ∧ Kd.R (Kd.int .u8) 5 w' w.heap.size (fun _ => True) v2_ r3 ∧ Below w.heap.size w w' := by
 have hu25 := Tryd.underlying25
 have HR0_2 := Aside0.mk hr0_2
 have HC0_2 := Aside0.mk hc0_2
 clear hr0_2 hc0_2
 have HR1_2 := Aside0.mk hr1_2
 have HC1_2 := Aside0.mk hc1_2
 clear hr1_2 hc1_2
 have HB := Aside0.mk (Below.refl w.heap.size w)
 have H : ((spec_l05Small.f a0_0 a0_1 l0_2).bind fun t15004 => (if t15004 = true then ((spec_l05Small.f a1_0 a1_1 l1_2).bind fun t15005 => (if t15005 = true then (if a1_0 < a0_0 then (spec_EditJoin.j0 k true a0_0 a0_1 l0_2 a1_0 a1_1 l1_2) else (spec_EditJoin.j0 k (decide ((wrap64 (a1_0 + a1_1)) > (wrap64 (a0_0 + (l0_2.length : Int))))) a0_0 a0_1 l0_2 a1_0 a1_1 l1_2)) else (spec_EditJoin.j0 k true a0_0 a0_1 l0_2 a1_0 a1_1 l1_2))) else (spec_EditJoin.j0 k true a0_0 a0_1 l0_2 a1_0 a1_1 l1_2))) = some (r1, r2, r3, r4) := h
 clear h
 have HC3 := Aside0.mk H
 clear H
 go_enter Tryd.func14, Tryd.ntmps14
 go_upto_region 1 with (first | ((with_reducible refine gate_dst (N := 2) rfl ?_); (try (refine gate_guard (by rfl) ?_; dsimp only)); refine boxE 2 #[.int .i64 a0_0, .int .i64 a0_1, .slice A0_2 l0_2.length c0_2] 25 ?_; intro gb15001 hg w4 BK15001 hb; have GW15001 := Aside0.mk (gsz hg hbw : w.heap.size ≤ gb15001); have GE15001 := GW15001; replace HB := Aside0.mk (below_step hbw hb); clear hb hg) | ((with_reducible refine gate_dst (N := 3) rfl ?_); (try (refine gate_guard (by rfl) ?_; dsimp only)); refine boxE 3 #[.int .i64 a1_0, .int .i64 a1_1, .slice A1_2 l1_2.length c1_2] 25 ?_; intro gb15002 hg w5 BK15002 hb; have GW15002 := Aside0.mk (gsz hg hbs : w.heap.size ≤ gb15002); have GE15002 := GW15002; have NB15001_15002 := Aside0.mk (nbl BK15001 hg); have NB15002_15001 := Aside0.mk (nbg BK15001 hg); replace BK15001 := Aside0.mk (bkb BK15001 hb); replace HB := Aside0.mk (below_step hbs hb); clear hb hg) | ((with_reducible refine gate_dst (N := 4) rfl ?_); (try (refine gate_guard (by rfl) ?_; dsimp only)); refine boxE 4 #[.int .i64 0, .int .i64 0, .slice none 0 0] 25 ?_; intro gb15003 hg w6 BK15003 hb; have GW15003 := Aside0.mk (gsz hg hbs : w.heap.size ≤ gb15003); have GE15003 := GW15003; have NB15001_15003 := Aside0.mk (nbl BK15001 hg); have NB15003_15001 := Aside0.mk (nbg BK15001 hg); have NB15002_15003 := Aside0.mk (nbl BK15002 hg); have NB15003_15002 := Aside0.mk (nbg BK15002 hg); replace BK15001 := Aside0.mk (bkb BK15001 hb); replace BK15002 := Aside0.mk (bkb BK15002 hb); replace HB := Aside0.mk (below_step hbs hb); clear hb hg))
 (try simp only [Act.put, List.setIfInBounds_toArray, List.set_cons_zero, List.set_cons_succ])
 go_cut [36] (fun v36 wc => ∃ (kq : Nat) (x36_2 : Bool), v36 = .bool x36_2 ∧ Aside0 (spec_EditJoin.j0 kq x36_2 a0_0 a0_1 l0_2 a1_0 a1_1 l1_2 = some (r1, r2, r3, r4)) ∧ Aside0 (kq ≤ k) ∧ Aside0 (wc.heap[gb15001]? = some (.cells #[.int .i64 a0_0, .int .i64 a0_1, (.slice A0_2 l0_2.length c0_2)] 25 (0, 0))) ∧ Aside0 (wc.heap[gb15002]? = some (.cells #[.int .i64 a1_0, .int .i64 a1_1, (.slice A1_2 l1_2.length c1_2)] 25 (0, 0))) ∧ Aside0 (wc.heap[gb15003]? = some (.cells #[.int .i64 0, .int .i64 0, (.slice none 0 0)] 25 (0, 0))) ∧ Aside0 (Below w.heap.size w wc))
 case first =>
  have H := HC3.out
  clear HC3
  replace H := Option.bind_eq_some_iff.mp H
  obtain ⟨t15004, A70, H⟩ := H
  replace H : (if t15004 = true then ((spec_l05Small.f a1_0 a1_1 l1_2).bind fun t15005 => (if t15005 = true then (if a1_0 < a0_0 then (spec_EditJoin.j0 k true a0_0 a0_1 l0_2 a1_0 a1_1 l1_2) else (spec_EditJoin.j0 k (decide ((wrap64 (a1_0 + a1_1)) > (wrap64 (a0_0 + (l0_2.length : Int))))) a0_0 a0_1 l0_2 a1_0 a1_1 l1_2)) else (spec_EditJoin.j0 k true a0_0 a0_1 l0_2 a1_0 a1_1 l1_2))) else (spec_EditJoin.j0 k true a0_0 a0_1 l0_2 a1_0 a1_1 l1_2)) = some (r1, r2, r3, r4) := H
  have A7 := Aside0.mk A70
  clear A70
  by_cases c8 : t15004 = true
  ·subst c8
   have H1 : ((spec_l05Small.f a1_0 a1_1 l1_2).bind fun t15005 => (if t15005 = true then (if a1_0 < a0_0 then (spec_EditJoin.j0 k true a0_0 a0_1 l0_2 a1_0 a1_1 l1_2) else (spec_EditJoin.j0 k (decide ((wrap64 (a1_0 + a1_1)) > (wrap64 (a0_0 + (l0_2.length : Int))))) a0_0 a0_1 l0_2 a1_0 a1_1 l1_2)) else (spec_EditJoin.j0 k true a0_0 a0_1 l0_2 a1_0 a1_1 l1_2))) = some (r1, r2, r3, r4) := by rw [if_pos rfl] at H; exact H
   clear H
   have H := H1
   clear H1
   replace H := Option.bind_eq_some_iff.mp H
   obtain ⟨t15005, A90, H⟩ := H
   replace H : (if t15005 = true then (if a1_0 < a0_0 then (spec_EditJoin.j0 k true a0_0 a0_1 l0_2 a1_0 a1_1 l1_2) else (spec_EditJoin.j0 k (decide ((wrap64 (a1_0 + a1_1)) > (wrap64 (a0_0 + (l0_2.length : Int))))) a0_0 a0_1 l0_2 a1_0 a1_1 l1_2)) else (spec_EditJoin.j0 k true a0_0 a0_1 l0_2 a1_0 a1_1 l1_2)) = some (r1, r2, r3, r4) := H
   have A9 := Aside0.mk A90
   clear A90
   by_cases c10 : t15005 = true
   ·subst c10
    have H1 : (if a1_0 < a0_0 then (spec_EditJoin.j0 k true a0_0 a0_1 l0_2 a1_0 a1_1 l1_2) else (spec_EditJoin.j0 k (decide ((wrap64 (a1_0 + a1_1)) > (wrap64 (a0_0 + (l0_2.length : Int))))) a0_0 a0_1 l0_2 a1_0 a1_1 l1_2)) = some (r1, r2, r3, r4) := by rw [if_pos rfl] at H; exact H
    clear H
    have H := H1
    clear H1
    by_cases c11 : a1_0 < a0_0
    ·rw [if_pos c11] at H
     have c11b0 : decide (a1_0 < a0_0) = true := decide_eq_true c11
     clear c11
     (first | rw [c11b0] | (simp only [i64_w, i32_w]; rw [c11b0]) | skip)
     have H' := Aside0.mk H
     clear H
     have hnb12 := NB15001_15002.out
     have hnc12 := NB15002_15001.out
     have hnb13 := NB15001_15003.out
     have hnc13 := NB15003_15001.out
     have hcz14_0 : w6.cell? ⟨gb15001, 0, none⟩ = some (.int .i64 a0_0) := (blk_cell BK15001.out 0).trans rfl
     have hcz14_1 : w6.cell? ⟨gb15001, 1, none⟩ = some (.int .i64 a0_1) := (blk_cell BK15001.out 1).trans rfl
     have hcz14_2 : w6.cell? ⟨gb15001, 2, none⟩ = some (.slice A0_2 l0_2.length c0_2) := (blk_cell BK15001.out 2).trans rfl
     have hfz14_0 := blk_frozen BK15001.out 0
     have hfz14_1 := blk_frozen BK15001.out 1
     have hfz14_2 := blk_frozen BK15001.out 2
     go_wp2_with (first | ((with_reducible refine gate_callee (f := 66) rfl ?_); refine goesM (some 9) Tryd.func66 #[.agg #[.int .i64 a0_0, .int .i64 a0_1, .slice A0_2 l0_2.length c0_2]] ?_; (with_reducible refine (spec_l05Small.calls a0_0 a0_1 _ _ l0_2 true _ ?side1 ?side2 A7.out).mono ?_); (case side1 => exact cpl (Kd.C_below HR0_2.out HB.out)); (case side2 => exact HC0_2.out); rintro e w15 ⟨rfl, hb⟩; refine ⟨_, rfl, ?_⟩; replace BK15001 := Aside0.mk (bkb BK15001 hb); replace BK15002 := Aside0.mk (bkb BK15002 hb); replace BK15003 := Aside0.mk (bkb BK15003 hb); replace HB := Aside0.mk (below_step hbs hb); (try clear hb); (try clear hb2); (try clear hk); (try clear hi); have hnb16 := NB15002_15003.out; have hnc16 := NB15003_15002.out; have hcz17_0 : w15.cell? ⟨gb15002, 0, none⟩ = some (.int .i64 a1_0) := (blk_cell BK15002.out 0).trans rfl; have hcz17_1 : w15.cell? ⟨gb15002, 1, none⟩ = some (.int .i64 a1_1) := (blk_cell BK15002.out 1).trans rfl; have hcz17_2 : w15.cell? ⟨gb15002, 2, none⟩ = some (.slice A1_2 l1_2.length c1_2) := (blk_cell BK15002.out 2).trans rfl; have hfz17_0 := blk_frozen BK15002.out 0; have hfz17_1 := blk_frozen BK15002.out 1; have hfz17_2 := blk_frozen BK15002.out 2) | (go_at_call 66; (with_reducible refine (spec_l05Small.calls a1_0 a1_1 _ _ l1_2 true _ ?side1 ?side2 A9.out).mono ?_); (case side1 => exact cpl (Kd.C_below HR1_2.out HB.out)); (case side2 => exact HC1_2.out); rintro e w18 ⟨rfl, hb⟩; replace BK15001 := Aside0.mk (bkb BK15001 hb); replace BK15002 := Aside0.mk (bkb BK15002 hb); replace BK15003 := Aside0.mk (bkb BK15003 hb); replace HB := Aside0.mk (below_step hbs hb); (try clear hb); (try clear hb2); (try clear hk); (try clear hi); have hcz19_0 : w18.cell? ⟨gb15002, 0, none⟩ = some (.int .i64 a1_0) := (blk_cell BK15002.out 0).trans rfl; have hcz19_1 : w18.cell? ⟨gb15002, 1, none⟩ = some (.int .i64 a1_1) := (blk_cell BK15002.out 1).trans rfl; have hcz19_2 : w18.cell? ⟨gb15002, 2, none⟩ = some (.slice A1_2 l1_2.length c1_2) := (blk_cell BK15002.out 2).trans rfl; have hfz19_0 := blk_frozen BK15002.out 0; have hfz19_1 := blk_frozen BK15002.out 1; have hfz19_2 := blk_frozen BK15002.out 2; have hcz20_0 : w18.cell? ⟨gb15001, 0, none⟩ = some (.int .i64 a0_0) := (blk_cell BK15001.out 0).trans rfl; have hcz20_1 : w18.cell? ⟨gb15001, 1, none⟩ = some (.int .i64 a0_1) := (blk_cell BK15001.out 1).trans rfl; have hcz20_2 : w18.cell? ⟨gb15001, 2, none⟩ = some (.slice A0_2 l0_2.length c0_2) := (blk_cell BK15001.out 2).trans rfl; have hfz20_0 := blk_frozen BK15001.out 0; have hfz20_1 := blk_frozen BK15001.out 1; have hfz20_2 := blk_frozen BK15001.out 2))
     go_meet
     case rel => exact ⟨_, (true), rfs, H', ⟨by first | omega | exact Nat.le_refl _⟩, ⟨by refine pB ?_; exact BK15001.out⟩, ⟨by refine pB ?_; exact BK15002.out⟩, ⟨by refine pB ?_; exact BK15003.out⟩, ⟨hbs⟩⟩
    ·rw [if_neg c11] at H
     have c11b0 : decide (a1_0 < a0_0) = false := decide_eq_false c11
     clear c11
     (first | rw [c11b0] | (simp only [i64_w, i32_w]; rw [c11b0]) | skip)
     have H' := Aside0.mk H
     clear H
     have hnb21 := NB15001_15002.out
     have hnc21 := NB15002_15001.out
     have hnb22 := NB15001_15003.out
     have hnc22 := NB15003_15001.out
     have hcz23_0 : w6.cell? ⟨gb15001, 0, none⟩ = some (.int .i64 a0_0) := (blk_cell BK15001.out 0).trans rfl
     have hcz23_1 : w6.cell? ⟨gb15001, 1, none⟩ = some (.int .i64 a0_1) := (blk_cell BK15001.out 1).trans rfl
     have hcz23_2 : w6.cell? ⟨gb15001, 2, none⟩ = some (.slice A0_2 l0_2.length c0_2) := (blk_cell BK15001.out 2).trans rfl
     have hfz23_0 := blk_frozen BK15001.out 0
     have hfz23_1 := blk_frozen BK15001.out 1
     have hfz23_2 := blk_frozen BK15001.out 2
     go_wp2_with (first | ((with_reducible refine gate_callee (f := 66) rfl ?_); refine goesM (some 9) Tryd.func66 #[.agg #[.int .i64 a0_0, .int .i64 a0_1, .slice A0_2 l0_2.length c0_2]] ?_; (with_reducible refine (spec_l05Small.calls a0_0 a0_1 _ _ l0_2 true _ ?side1 ?side2 A7.out).mono ?_); (case side1 => exact cpl (Kd.C_below HR0_2.out HB.out)); (case side2 => exact HC0_2.out); rintro e w24 ⟨rfl, hb⟩; refine ⟨_, rfl, ?_⟩; replace BK15001 := Aside0.mk (bkb BK15001 hb); replace BK15002 := Aside0.mk (bkb BK15002 hb); replace BK15003 := Aside0.mk (bkb BK15003 hb); replace HB := Aside0.mk (below_step hbs hb); (try clear hb); (try clear hb2); (try clear hk); (try clear hi); have hnb25 := NB15002_15003.out; have hnc25 := NB15003_15002.out; have hcz26_0 : w24.cell? ⟨gb15002, 0, none⟩ = some (.int .i64 a1_0) := (blk_cell BK15002.out 0).trans rfl; have hcz26_1 : w24.cell? ⟨gb15002, 1, none⟩ = some (.int .i64 a1_1) := (blk_cell BK15002.out 1).trans rfl; have hcz26_2 : w24.cell? ⟨gb15002, 2, none⟩ = some (.slice A1_2 l1_2.length c1_2) := (blk_cell BK15002.out 2).trans rfl; have hfz26_0 := blk_frozen BK15002.out 0; have hfz26_1 := blk_frozen BK15002.out 1; have hfz26_2 := blk_frozen BK15002.out 2) | (go_at_call 66; (with_reducible refine (spec_l05Small.calls a1_0 a1_1 _ _ l1_2 true _ ?side1 ?side2 A9.out).mono ?_); (case side1 => exact cpl (Kd.C_below HR1_2.out HB.out)); (case side2 => exact HC1_2.out); rintro e w27 ⟨rfl, hb⟩; replace BK15001 := Aside0.mk (bkb BK15001 hb); replace BK15002 := Aside0.mk (bkb BK15002 hb); replace BK15003 := Aside0.mk (bkb BK15003 hb); replace HB := Aside0.mk (below_step hbs hb); (try clear hb); (try clear hb2); (try clear hk); (try clear hi); have hcz28_0 : w27.cell? ⟨gb15002, 0, none⟩ = some (.int .i64 a1_0) := (blk_cell BK15002.out 0).trans rfl; have hcz28_1 : w27.cell? ⟨gb15002, 1, none⟩ = some (.int .i64 a1_1) := (blk_cell BK15002.out 1).trans rfl; have hcz28_2 : w27.cell? ⟨gb15002, 2, none⟩ = some (.slice A1_2 l1_2.length c1_2) := (blk_cell BK15002.out 2).trans rfl; have hfz28_0 := blk_frozen BK15002.out 0; have hfz28_1 := blk_frozen BK15002.out 1; have hfz28_2 := blk_frozen BK15002.out 2; have hcz29_0 : w27.cell? ⟨gb15001, 0, none⟩ = some (.int .i64 a0_0) := (blk_cell BK15001.out 0).trans rfl; have hcz29_1 : w27.cell? ⟨gb15001, 1, none⟩ = some (.int .i64 a0_1) := (blk_cell BK15001.out 1).trans rfl; have hcz29_2 : w27.cell? ⟨gb15001, 2, none⟩ = some (.slice A0_2 l0_2.length c0_2) := (blk_cell BK15001.out 2).trans rfl; have hfz29_0 := blk_frozen BK15001.out 0; have hfz29_1 := blk_frozen BK15001.out 1; have hfz29_2 := blk_frozen BK15001.out 2))
     go_meet
     case rel => exact ⟨_, (decide ((wrap64 (a1_0 + a1_1)) > (wrap64 (a0_0 + (l0_2.length : Int))))), rfs, H', ⟨by first | omega | exact Nat.le_refl _⟩, ⟨by refine pB ?_; exact BK15001.out⟩, ⟨by refine pB ?_; exact BK15002.out⟩, ⟨by refine pB ?_; exact BK15003.out⟩, ⟨hbs⟩⟩
   ·replace c10 := Bool.eq_false_iff.mpr c10
    subst c10
    have H1 : (spec_EditJoin.j0 k true a0_0 a0_1 l0_2 a1_0 a1_1 l1_2) = some (r1, r2, r3, r4) := by rw [if_neg (show ¬ (false = true) by decide)] at H; exact H
    clear H
    have H := H1
    clear H1
    have H' := Aside0.mk H
    clear H
    have hnb30 := NB15001_15002.out
    have hnc30 := NB15002_15001.out
    have hnb31 := NB15001_15003.out
    have hnc31 := NB15003_15001.out
    have hcz32_0 : w6.cell? ⟨gb15001, 0, none⟩ = some (.int .i64 a0_0) := (blk_cell BK15001.out 0).trans rfl
    have hcz32_1 : w6.cell? ⟨gb15001, 1, none⟩ = some (.int .i64 a0_1) := (blk_cell BK15001.out 1).trans rfl
    have hcz32_2 : w6.cell? ⟨gb15001, 2, none⟩ = some (.slice A0_2 l0_2.length c0_2) := (blk_cell BK15001.out 2).trans rfl
    have hfz32_0 := blk_frozen BK15001.out 0
    have hfz32_1 := blk_frozen BK15001.out 1
    have hfz32_2 := blk_frozen BK15001.out 2
    go_wp2_with (first | ((with_reducible refine gate_callee (f := 66) rfl ?_); refine goesM (some 9) Tryd.func66 #[.agg #[.int .i64 a0_0, .int .i64 a0_1, .slice A0_2 l0_2.length c0_2]] ?_; (with_reducible refine (spec_l05Small.calls a0_0 a0_1 _ _ l0_2 true _ ?side1 ?side2 A7.out).mono ?_); (case side1 => exact cpl (Kd.C_below HR0_2.out HB.out)); (case side2 => exact HC0_2.out); rintro e w33 ⟨rfl, hb⟩; refine ⟨_, rfl, ?_⟩; replace BK15001 := Aside0.mk (bkb BK15001 hb); replace BK15002 := Aside0.mk (bkb BK15002 hb); replace BK15003 := Aside0.mk (bkb BK15003 hb); replace HB := Aside0.mk (below_step hbs hb); (try clear hb); (try clear hb2); (try clear hk); (try clear hi); have hnb34 := NB15002_15003.out; have hnc34 := NB15003_15002.out; have hcz35_0 : w33.cell? ⟨gb15002, 0, none⟩ = some (.int .i64 a1_0) := (blk_cell BK15002.out 0).trans rfl; have hcz35_1 : w33.cell? ⟨gb15002, 1, none⟩ = some (.int .i64 a1_1) := (blk_cell BK15002.out 1).trans rfl; have hcz35_2 : w33.cell? ⟨gb15002, 2, none⟩ = some (.slice A1_2 l1_2.length c1_2) := (blk_cell BK15002.out 2).trans rfl; have hfz35_0 := blk_frozen BK15002.out 0; have hfz35_1 := blk_frozen BK15002.out 1; have hfz35_2 := blk_frozen BK15002.out 2) | (go_at_call 66; (with_reducible refine (spec_l05Small.calls a1_0 a1_1 _ _ l1_2 false _ ?side1 ?side2 A9.out).mono ?_); (case side1 => exact cpl (Kd.C_below HR1_2.out HB.out)); (case side2 => exact HC1_2.out); rintro e w36 ⟨rfl, hb⟩; replace BK15001 := Aside0.mk (bkb BK15001 hb); replace BK15002 := Aside0.mk (bkb BK15002 hb); replace BK15003 := Aside0.mk (bkb BK15003 hb); replace HB := Aside0.mk (below_step hbs hb); (try clear hb); (try clear hb2); (try clear hk); (try clear hi)))
    go_meet
    case rel => exact ⟨_, (true), rfs, H', ⟨by first | omega | exact Nat.le_refl _⟩, ⟨by refine pB ?_; exact BK15001.out⟩, ⟨by refine pB ?_; exact BK15002.out⟩, ⟨by refine pB ?_; exact BK15003.out⟩, ⟨hbs⟩⟩
  ·replace c8 := Bool.eq_false_iff.mpr c8
   subst c8
   have H1 : (spec_EditJoin.j0 k true a0_0 a0_1 l0_2 a1_0 a1_1 l1_2) = some (r1, r2, r3, r4) := by rw [if_neg (show ¬ (false = true) by decide)] at H; exact H
   clear H
   have H := H1
   clear H1
   have H' := Aside0.mk H
   clear H
   have hnb37 := NB15001_15002.out
   have hnc37 := NB15002_15001.out
   have hnb38 := NB15001_15003.out
   have hnc38 := NB15003_15001.out
   have hcz39_0 : w6.cell? ⟨gb15001, 0, none⟩ = some (.int .i64 a0_0) := (blk_cell BK15001.out 0).trans rfl
   have hcz39_1 : w6.cell? ⟨gb15001, 1, none⟩ = some (.int .i64 a0_1) := (blk_cell BK15001.out 1).trans rfl
   have hcz39_2 : w6.cell? ⟨gb15001, 2, none⟩ = some (.slice A0_2 l0_2.length c0_2) := (blk_cell BK15001.out 2).trans rfl
   have hfz39_0 := blk_frozen BK15001.out 0
   have hfz39_1 := blk_frozen BK15001.out 1
   have hfz39_2 := blk_frozen BK15001.out 2
   go_wp2_with (first | ((with_reducible refine gate_callee (f := 66) rfl ?_); refine goesM (some 9) Tryd.func66 #[.agg #[.int .i64 a0_0, .int .i64 a0_1, .slice A0_2 l0_2.length c0_2]] ?_; (with_reducible refine (spec_l05Small.calls a0_0 a0_1 _ _ l0_2 false _ ?side1 ?side2 A7.out).mono ?_); (case side1 => exact cpl (Kd.C_below HR0_2.out HB.out)); (case side2 => exact HC0_2.out); rintro e w40 ⟨rfl, hb⟩; refine ⟨_, rfl, ?_⟩; replace BK15001 := Aside0.mk (bkb BK15001 hb); replace BK15002 := Aside0.mk (bkb BK15002 hb); replace BK15003 := Aside0.mk (bkb BK15003 hb); replace HB := Aside0.mk (below_step hbs hb); (try clear hb); (try clear hb2); (try clear hk); (try clear hi)))
   go_meet
   case rel => exact ⟨_, (true), rfs, H', ⟨by first | omega | exact Nat.le_refl _⟩, ⟨by refine pB ?_; exact BK15001.out⟩, ⟨by refine pB ?_; exact BK15002.out⟩, ⟨by refine pB ?_; exact BK15003.out⟩, ⟨hbs⟩⟩
 case rest =>
  clear HC3
  try clear c1
  try clear c2
  try clear p2
  try clear c3
  try clear c6
  try clear p6
  try clear c8
  try clear c10
  try clear c11
  try clear c11b0
  try clear c12
  try clear c13
  try clear c14
  try clear c16
  try clear c21
  try clear c22
  try clear c25
  try clear c30
  try clear c31
  try clear c34
  try clear c37
  try clear c38
  try clear hcz14_0
  try clear hcz14_1
  try clear hcz14_2
  try clear hcz17_0
  try clear hcz17_1
  try clear hcz17_2
  try clear hcz19_0
  try clear hcz19_1
  try clear hcz19_2
  try clear hcz20_0
  try clear hcz20_1
  try clear hcz20_2
  try clear hcz23_0
  try clear hcz23_1
  try clear hcz23_2
  try clear hcz26_0
  try clear hcz26_1
  try clear hcz26_2
  try clear hcz28_0
  try clear hcz28_1
  try clear hcz28_2
  try clear hcz29_0
  try clear hcz29_1
  try clear hcz29_2
  try clear hcz32_0
  try clear hcz32_1
  try clear hcz32_2
  try clear hcz35_0
  try clear hcz35_1
  try clear hcz35_2
  try clear hcz39_0
  try clear hcz39_1
  try clear hcz39_2
  try clear hfz14_0
  try clear hfz14_1
  try clear hfz14_2
  try clear hfz17_0
  try clear hfz17_1
  try clear hfz17_2
  try clear hfz19_0
  try clear hfz19_1
  try clear hfz19_2
  try clear hfz20_0
  try clear hfz20_1
  try clear hfz20_2
  try clear hfz23_0
  try clear hfz23_1
  try clear hfz23_2
  try clear hfz26_0
  try clear hfz26_1
  try clear hfz26_2
  try clear hfz28_0
  try clear hfz28_1
  try clear hfz28_2
  try clear hfz29_0
  try clear hfz29_1
  try clear hfz29_2
  try clear hfz32_0
  try clear hfz32_1
  try clear hfz32_2
  try clear hfz35_0
  try clear hfz35_1
  try clear hfz35_2
  try clear hfz39_0
  try clear hfz39_1
  try clear hfz39_2
  obtain ⟨kq, x36_2, rfl, HA, HJ2, BK15001, BK15002, BK15003, HB⟩ := hcut
  cases kq with
  | zero => exact absurd HA.out (by simp [spec_EditJoin.j0])
  | succ kj2 =>
   have H := HA.out
   clear HA
   simp only [spec_EditJoin.j0] at H
   by_cases c41 : x36_2 = true
   ·subst c41
    have H1 : (some (0, 0, ([] : List Int), false)) = some (r1, r2, r3, r4) := by rw [if_pos rfl] at H; exact H
    clear H
    have H := H1
    clear H1
    simp only [Option.some.injEq, Prod.mk.injEq] at H
    obtain ⟨rfl, rfl, rfl, rfl⟩ := H
    have hnb42 := NB15003_15001.out
    have hnc42 := NB15001_15003.out
    have hnb43 := NB15003_15002.out
    have hnc43 := NB15002_15003.out
    have hcz44_0 : wc.cell? ⟨gb15003, 0, none⟩ = some (.int .i64 0) := (blk_cell BK15003.out 0).trans rfl
    have hcz44_1 : wc.cell? ⟨gb15003, 1, none⟩ = some (.int .i64 0) := (blk_cell BK15003.out 1).trans rfl
    have hcz44_2 : wc.cell? ⟨gb15003, 2, none⟩ = some (.slice none 0 0) := (blk_cell BK15003.out 2).trans rfl
    have hfz44_0 := blk_frozen BK15003.out 0
    have hfz44_1 := blk_frozen BK15003.out 1
    have hfz44_2 := blk_frozen BK15003.out 2
    go_wp2
    refine bodyPost_ret (results_ct rfl _ _ gb15003 25 #[.int .i64 0, .int .i64 0, .slice none 0 0] (0, 0) _ rfl (by refine pB ?_; refine blk_put (cs := #[.int .i64 0, .int .i64 0, .slice none 0 0]) ?_ 2 _ rfl; refine pB ?_; refine blk_put (cs := #[.int .i64 0, .int .i64 0, .slice none 0 0]) ?_ 1 _ rfl; refine pB ?_; refine blk_put (cs := #[.int .i64 0, .int .i64 0, .slice none 0 0]) ?_ 0 _ rfl; refine pB ?_; exact BK15003.out) Tryd.underlying25 rfl (by kernel_rfl)) rfl ?_
    exact ⟨_, erf, by first | exact Kd.R_nil _ _ _ _ _ | exact Kd.N_nil _ _ _ _ _ | exact Kd.V_nil _ _ _ _ _ | exact Kd.Q_nil _ _ _ _ _ | exact Kd.S_nil _ _ _ _ _, hbs⟩
   ·replace c41 := Bool.eq_false_iff.mpr c41
    subst c41
    have H1 : ((some (([] : List Int) : List Int)).bind fun y15006 => (if 0 ≤ (wrap64 (a1_0 - a0_0)) then (if (wrap64 (a1_0 - a0_0)) ≤ (l0_2.length : Int) then (if y15006.length + (l0_2.take ((wrap64 (a1_0 - a0_0)) : Int).toNat).length < 140737488355328 then ((some (y15006 ++ (l0_2.take ((wrap64 (a1_0 - a0_0)) : Int).toNat) : List Int)).bind fun y15010 => (if y15010.length + l1_2.length < 140737488355328 then ((some (y15010 ++ l1_2 : List Int)).bind fun y15013 => (if 0 ≤ (wrap64 ((wrap64 (a1_0 - a0_0)) + a1_1)) then (if (wrap64 ((wrap64 (a1_0 - a0_0)) + a1_1)) ≤ (l0_2.length : Int) then (if y15013.length + (l0_2.drop ((wrap64 ((wrap64 (a1_0 - a0_0)) + a1_1)) : Int).toNat).length < 140737488355328 then ((some (y15013 ++ (l0_2.drop ((wrap64 ((wrap64 (a1_0 - a0_0)) + a1_1)) : Int).toNat) : List Int)).bind fun y15017 => (if (y15017.length : Int) > 400 then (some (0, 0, ([] : List Int), false)) else (some (a0_0, a0_1, y15017, true)))) else (none)) else (none)) else (none))) else (none))) else (none)) else (none)) else (none))) = some (r1, r2, r3, r4) := by rw [if_neg (show ¬ (false = true) by decide)] at H; exact H
    clear H
    have H := H1
    clear H1
    obtain ⟨y15006, hy15006⟩ : ∃ y_ : List Int, y_ = (([] : List Int)) := ⟨_, rfl⟩
    replace H : (if 0 ≤ (wrap64 (a1_0 - a0_0)) then (if (wrap64 (a1_0 - a0_0)) ≤ (l0_2.length : Int) then (if y15006.length + (l0_2.take ((wrap64 (a1_0 - a0_0)) : Int).toNat).length < 140737488355328 then ((some (y15006 ++ (l0_2.take ((wrap64 (a1_0 - a0_0)) : Int).toNat) : List Int)).bind fun y15010 => (if y15010.length + l1_2.length < 140737488355328 then ((some (y15010 ++ l1_2 : List Int)).bind fun y15013 => (if 0 ≤ (wrap64 ((wrap64 (a1_0 - a0_0)) + a1_1)) then (if (wrap64 ((wrap64 (a1_0 - a0_0)) + a1_1)) ≤ (l0_2.length : Int) then (if y15013.length + (l0_2.drop ((wrap64 ((wrap64 (a1_0 - a0_0)) + a1_1)) : Int).toNat).length < 140737488355328 then ((some (y15013 ++ (l0_2.drop ((wrap64 ((wrap64 (a1_0 - a0_0)) + a1_1)) : Int).toNat) : List Int)).bind fun y15017 => (if (y15017.length : Int) > 400 then (some (0, 0, ([] : List Int), false)) else (some (a0_0, a0_1, y15017, true)))) else (none)) else (none)) else (none))) else (none))) else (none)) else (none)) else (none)) = some (r1, r2, r3, r4) := repH hy15006 H
    have Ny15006 := Aside0.mk hy15006
    clear hy15006
    obtain ⟨ji45, hji45⟩ : ∃ j_ : Int, (wrap64 (a1_0 - a0_0)) = j_ := ⟨_, rfl⟩
    replace H : (if 0 ≤ (ji45) then (if (ji45) ≤ (l0_2.length : Int) then (if y15006.length + (l0_2.take ((ji45) : Int).toNat).length < 140737488355328 then ((some (y15006 ++ (l0_2.take ((ji45) : Int).toNat) : List Int)).bind fun y15010 => (if y15010.length + l1_2.length < 140737488355328 then ((some (y15010 ++ l1_2 : List Int)).bind fun y15013 => (if 0 ≤ (wrap64 ((ji45) + a1_1)) then (if (wrap64 ((ji45) + a1_1)) ≤ (l0_2.length : Int) then (if y15013.length + (l0_2.drop ((wrap64 ((ji45) + a1_1)) : Int).toNat).length < 140737488355328 then ((some (y15013 ++ (l0_2.drop ((wrap64 ((ji45) + a1_1)) : Int).toNat) : List Int)).bind fun y15017 => (if (y15017.length : Int) > 400 then (some (0, 0, ([] : List Int), false)) else (some (a0_0, a0_1, y15017, true)))) else (none)) else (none)) else (none))) else (none))) else (none)) else (none)) else (none)) = some (r1, r2, r3, r4) := by first | (rw [hji45] at H; exact H) | (simp only [hji45] at H ⊢; exact H)
    have hji45w : (IntKind.i64.wrap (a1_0 - a0_0)) = ji45 := (i64_w _).trans hji45
    by_cases c46 : 0 ≤ (ji45)
    ·rw [if_pos c46] at H
     have c46b0 := eq_true c46
     have c46b1 : decide (0 ≤ (ji45)) = true := decide_eq_true c46
     clear c46
     by_cases c47 : (ji45) ≤ (l0_2.length : Int)
     ·rw [if_pos c47] at H
      have c47b0 := eq_true c47
      have c47b1 : decide ((ji45) ≤ (l0_2.length : Int)) = true := decide_eq_true c47
      clear c47
      by_cases c48 : y15006.length + (l0_2.take ((ji45) : Int).toNat).length < 140737488355328
      ·rw [if_pos c48] at H
       have LMc48 := Aside0.mk c48
       clear c48
       obtain ⟨y15010, hy15010⟩ : ∃ y_ : List Int, y_ = (y15006 ++ (l0_2.take ((ji45) : Int).toNat)) := ⟨_, rfl⟩
       replace H : (if y15010.length + l1_2.length < 140737488355328 then ((some (y15010 ++ l1_2 : List Int)).bind fun y15013 => (if 0 ≤ (wrap64 ((ji45) + a1_1)) then (if (wrap64 ((ji45) + a1_1)) ≤ (l0_2.length : Int) then (if y15013.length + (l0_2.drop ((wrap64 ((ji45) + a1_1)) : Int).toNat).length < 140737488355328 then ((some (y15013 ++ (l0_2.drop ((wrap64 ((ji45) + a1_1)) : Int).toNat) : List Int)).bind fun y15017 => (if (y15017.length : Int) > 400 then (some (0, 0, ([] : List Int), false)) else (some (a0_0, a0_1, y15017, true)))) else (none)) else (none)) else (none))) else (none)) = some (r1, r2, r3, r4) := repH hy15010 H
       have Ny15010 := Aside0.mk hy15010
       clear hy15010
       by_cases c49 : y15010.length + l1_2.length < 140737488355328
       ·rw [if_pos c49] at H
        have LMc49 := Aside0.mk c49
        clear c49
        obtain ⟨y15013, hy15013⟩ : ∃ y_ : List Int, y_ = (y15010 ++ l1_2) := ⟨_, rfl⟩
        replace H : (if 0 ≤ (wrap64 ((ji45) + a1_1)) then (if (wrap64 ((ji45) + a1_1)) ≤ (l0_2.length : Int) then (if y15013.length + (l0_2.drop ((wrap64 ((ji45) + a1_1)) : Int).toNat).length < 140737488355328 then ((some (y15013 ++ (l0_2.drop ((wrap64 ((ji45) + a1_1)) : Int).toNat) : List Int)).bind fun y15017 => (if (y15017.length : Int) > 400 then (some (0, 0, ([] : List Int), false)) else (some (a0_0, a0_1, y15017, true)))) else (none)) else (none)) else (none)) = some (r1, r2, r3, r4) := repH hy15013 H
        have Ny15013 := Aside0.mk hy15013
        clear hy15013
        obtain ⟨ji50, hji50⟩ : ∃ j_ : Int, (wrap64 ((ji45) + a1_1)) = j_ := ⟨_, rfl⟩
        replace H : (if 0 ≤ (ji50) then (if (ji50) ≤ (l0_2.length : Int) then (if y15013.length + (l0_2.drop ((ji50) : Int).toNat).length < 140737488355328 then ((some (y15013 ++ (l0_2.drop ((ji50) : Int).toNat) : List Int)).bind fun y15017 => (if (y15017.length : Int) > 400 then (some (0, 0, ([] : List Int), false)) else (some (a0_0, a0_1, y15017, true)))) else (none)) else (none)) else (none)) = some (r1, r2, r3, r4) := by first | (rw [hji50] at H; exact H) | (simp only [hji50] at H ⊢; exact H)
        have hji50w : (IntKind.i64.wrap ((ji45) + a1_1)) = ji50 := (i64_w _).trans hji50
        by_cases c51 : 0 ≤ (ji50)
        ·rw [if_pos c51] at H
         have c51b0 := eq_true c51
         have c51b1 : decide (0 ≤ (ji50)) = true := decide_eq_true c51
         clear c51
         by_cases c52 : (ji50) ≤ (l0_2.length : Int)
         ·rw [if_pos c52] at H
          have c52b0 := eq_true c52
          have c52b1 : decide ((ji50) ≤ (l0_2.length : Int)) = true := decide_eq_true c52
          clear c52
          by_cases c53 : y15013.length + (l0_2.drop ((ji50) : Int).toNat).length < 140737488355328
          ·rw [if_pos c53] at H
           have LMc53 := Aside0.mk c53
           clear c53
           obtain ⟨y15017, hy15017⟩ : ∃ y_ : List Int, y_ = (y15013 ++ (l0_2.drop ((ji50) : Int).toNat)) := ⟨_, rfl⟩
           replace H : (if (y15017.length : Int) > 400 then (some (0, 0, ([] : List Int), false)) else (some (a0_0, a0_1, y15017, true))) = some (r1, r2, r3, r4) := repH hy15017 H
           have Ny15017 := Aside0.mk hy15017
           clear hy15017
           by_cases c54 : (y15017.length : Int) > 400
           ·rw [if_pos c54] at H
            have c54b0 : decide (400 < (y15017.length : Int)) = true := decide_eq_true c54
            have c54b1 : decide (400 < y15017.length) = true := decide_eq_true (by omega)
            clear c54
            simp only [Option.some.injEq, Prod.mk.injEq] at H
            obtain ⟨rfl, rfl, rfl, rfl⟩ := H
            have hnb55 := NB15002_15001.out
            have hnc55 := NB15001_15002.out
            have hnb56 := NB15002_15003.out
            have hnc56 := NB15003_15002.out
            have hcz57_0 : wc.cell? ⟨gb15002, 0, none⟩ = some (.int .i64 a1_0) := (blk_cell BK15002.out 0).trans rfl
            have hcz57_1 : wc.cell? ⟨gb15002, 1, none⟩ = some (.int .i64 a1_1) := (blk_cell BK15002.out 1).trans rfl
            have hcz57_2 : wc.cell? ⟨gb15002, 2, none⟩ = some (.slice A1_2 l1_2.length c1_2) := (blk_cell BK15002.out 2).trans rfl
            have hfz57_0 := blk_frozen BK15002.out 0
            have hfz57_1 := blk_frozen BK15002.out 1
            have hfz57_2 := blk_frozen BK15002.out 2
            have hnb58 := NB15001_15003.out
            have hnc58 := NB15003_15001.out
            have hcz59_0 : wc.cell? ⟨gb15001, 0, none⟩ = some (.int .i64 a0_0) := (blk_cell BK15001.out 0).trans rfl
            have hcz59_1 : wc.cell? ⟨gb15001, 1, none⟩ = some (.int .i64 a0_1) := (blk_cell BK15001.out 1).trans rfl
            have hcz59_2 : wc.cell? ⟨gb15001, 2, none⟩ = some (.slice A0_2 l0_2.length c0_2) := (blk_cell BK15001.out 2).trans rfl
            have hfz59_0 := blk_frozen BK15001.out 0
            have hfz59_1 := blk_frozen BK15001.out 1
            have hfz59_2 := blk_frozen BK15001.out 2
            try go_wp2
            replace BK15001 := Aside0.mk (blk_drew BK15001.out)
            replace BK15002 := Aside0.mk (blk_drew BK15002.out)
            replace BK15003 := Aside0.mk (blk_drew BK15003.out)
            replace HB := Aside0.mk (below_drew1 HB.out)
            obtain ⟨i061, hi061, _, hsz61, _⟩ := info_parts info5
            obtain ⟨hcut61, hA61, hC61⟩ := print_take_of (P := Tryd.prog) (Value.int .u8) 0 22 5 .i64 Tryd.underlying22 hi061 hsz61 A0_2 c0_2 l0_2 (ji45) (odt) (odt) HC0_2.out
            have HR15009 := Aside0.mk (Kd.C_of_reads (h1 := fun _ => rfl) (hA61 _ (Kd.reads_of_C HR0_2.out)))
            have HC15009 := Aside0.mk hC61
            clear hA61 hC61 hi061 hsz61
            obtain ⟨i062, hi062, _, hsz62, _⟩ := info_parts info5
            obtain ⟨A62, hcut62, hA62, hC62⟩ := print_drop_of (P := Tryd.prog) (Value.int .u8) 0 22 5 .i64 Tryd.underlying22 hi062 hsz62 A0_2 c0_2 l0_2 (ji50) (odt) (odt) HC0_2.out
            have HR15016 := Aside0.mk (Kd.C_of_reads (h1 := fun _ => rfl) (hA62 _ (Kd.reads_of_C HR0_2.out)))
            have HC15016 := Aside0.mk hC62
            clear hA62 hC62 hi062 hsz62
            refine start_ (n := 18) (S := fun w' => w'.cell? ⟨gb15001, 0, none⟩ = some (.int .i64 a0_0) ∧ w'.cell? ⟨gb15001, 1, none⟩ = some (.int .i64 a0_1) ∧ w'.cell? ⟨gb15001, 2, none⟩ = some (.slice A0_2 l0_2.length c0_2) ∧ w'.cell? ⟨gb15002, 0, none⟩ = some (.int .i64 a1_0) ∧ w'.cell? ⟨gb15002, 1, none⟩ = some (.int .i64 a1_1) ∧ w'.cell? ⟨gb15002, 2, none⟩ = some (.slice A1_2 l1_2.length c1_2)) (ds := []) #[false, false, false, false, false, false, false, false, false, false, false, false, false, false, false, false, false, false] (by kernel_rfl) rfl rfl ⟨(blk_cell BK15001.out 0).trans rfl, (blk_cell BK15001.out 1).trans rfl, (blk_cell BK15001.out 2).trans rfl, (blk_cell BK15002.out 0).trans rfl, (blk_cell BK15002.out 1).trans rfl, (blk_cell BK15002.out 2).trans rfl⟩ (fun hHeld => ?_); refine with_tabW spec_EditJoin.tab4 spec_EditJoin.bits4 (fun HT_ HW_ => ?_)
            generalize wc.drew = w60 at BK15001 BK15002 BK15003 HB HR15009 HR15016 hHeld ⊢
            refine pureM 1 (some 44) #[false, true, false, false, false, false, false, false, false, false, false, false, false, false, false, false, false, false] (any_of HT_.out (by kernel_rfl)) ?_
            refine pureM 3 (some 46) #[false, true, false, true, false, false, false, false, false, false, false, false, false, false, false, false, false, false] (any_of HT_.out (by kernel_rfl)) ?_
            refine pureM 6 (some 49) #[false, true, false, true, false, false, true, false, false, false, false, false, false, false, false, false, false, false] (any_of HT_.out (by kernel_rfl)) ?_
            refine pureM 9 (some 52) #[false, true, false, true, false, false, true, false, false, true, false, false, false, false, false, false, false, false] (any_of HT_.out (by kernel_rfl)) ?_
            refine pureM 11 (some 54) #[false, true, false, true, false, false, true, false, false, true, false, true, false, false, false, false, false, false] (any_of HT_.out (by kernel_rfl)) ?_
            refine pureM 12 (some 55) #[false, true, false, true, false, false, true, false, false, true, false, true, true, false, false, false, false, false] (any_of HT_.out (by kernel_rfl)) ?_
            refine take_ (i := 2) (N := some 45) (v := ?_) (a' := ?_) #[false, true, true, true, false, false, true, false, false, true, false, true, true, false, false, false, false, false] rfl rfl (take_ofW HT_.out HW_.out (by kernel_rfl)) (fun _ _ _ h => h) (Or.inl ⟨by rfl, ?_⟩) hHeld ?_ ?_
            rotate_left
            ·rintro w' ⟨s0, s1, s2, s3, s4, s5⟩
             go_simp
             with_reducible rfl
            rotate_left
            ·simp only [Act.put, List.setIfInBounds_toArray, List.set_cons_zero, List.set_cons_succ, i64_w, i32_w]
             rfl
            refine pureM 4 (some 47) #[false, true, true, true, true, false, true, false, false, true, false, true, true, false, false, false, false, false] (any_of HT_.out (by kernel_rfl)) ?_
            refine take_ (i := 7) (N := some 50) (v := ?_) (a' := ?_) #[false, true, true, true, true, false, true, true, false, true, false, true, true, false, false, false, false, false] rfl rfl (take_ofW HT_.out HW_.out (by kernel_rfl)) (fun _ _ _ h => h) (Or.inl ⟨by rfl, ?_⟩) hHeld ?_ ?_
            rotate_left
            ·rintro w' ⟨s0, s1, s2, s3, s4, s5⟩
             go_simp
             with_reducible rfl
            rotate_left
            ·simp only [Act.put, List.setIfInBounds_toArray, List.set_cons_zero, List.set_cons_succ, i64_w, i32_w]
             rfl
            refine take_ (i := 10) (N := some 53) (v := ?_) (a' := ?_) #[false, true, true, true, true, false, true, true, false, true, true, true, true, false, false, false, false, false] rfl rfl (take_ofW HT_.out HW_.out (by kernel_rfl)) (fun _ _ _ h => h) (Or.inl ⟨by rfl, ?_⟩) hHeld ?_ ?_
            rotate_left
            ·rintro w' ⟨s0, s1, s2, s3, s4, s5⟩
             go_simp
             with_reducible rfl
            rotate_left
            ·simp only [Act.put, List.setIfInBounds_toArray, List.set_cons_zero, List.set_cons_succ, i64_w, i32_w]
             rfl
            refine take_ (i := 13) (N := some 56) (v := ?_) (a' := ?_) #[false, true, true, true, true, false, true, true, false, true, true, true, true, true, false, false, false, false] rfl rfl (take_ofW HT_.out HW_.out (by kernel_rfl)) (fun _ _ _ h => h) (Or.inl ⟨by rfl, ?_⟩) hHeld ?_ ?_
            rotate_left
            ·rintro w' ⟨s0, s1, s2, s3, s4, s5⟩
             go_simp
             with_reducible rfl
            rotate_left
            ·simp only [Act.put, List.setIfInBounds_toArray, List.set_cons_zero, List.set_cons_succ, i64_w, i32_w]
             rfl
            refine pureM 14 (some 57) #[false, true, true, true, true, false, true, true, false, true, true, true, true, true, true, false, false, false] (any_of HT_.out (by kernel_rfl)) ?_
            refine pureM 15 (some 58) #[false, true, true, true, true, false, true, true, false, true, true, true, true, true, true, true, false, false] (any_of HT_.out (by kernel_rfl)) ?_
            refine one_ (i := 0) (N := some 43) #[true, true, true, true, true, false, true, true, false, true, true, true, true, true, true, true, false, false] rfl rfl (one_of HT_.out (by kernel_rfl)) (by decide) (fun K hK => ?_)
            refine Kd.R_lit_step (Kd.int .u8) _ 5 ?hg (N := 43) ?hd (xs := ([] : List Int)) (inner := []) (ok := fun _ => True) (okp := fun _ => True) ?hr ?hp (fun _ hk => hk) trivial (Below.refl _ _) (Nat.le_refl _) (by simp) ?_; (case hd => rfl); (case hg => rfl); (case hr => first | (go_simp; done) | (go_simp; rfl)); (case hp => exact (Reps.none _ _))
            intro v15007 w63 ho64 hb hg_ hnew_
            clear hg_ hnew_
            (first | rw [← Ny15006.out] at ho64 | (simp only [Int.reduceToNat] at ho64; rw [← Ny15006.out] at ho64))
            have HO15008 := Aside0.mk (Kd.R_lower ho64 (below_size hbs))
            replace BK15001 := Aside0.mk (bkb BK15001 hb)
            replace BK15002 := Aside0.mk (bkb BK15002 hb)
            replace BK15003 := Aside0.mk (bkb BK15003 hb)
            replace HB := Aside0.mk (below_step hbs hb)
            clear hb ho64
            refine hK.out _ _ ⟨(blk_cell BK15001.out 0).trans rfl, (blk_cell BK15001.out 1).trans rfl, (blk_cell BK15001.out 2).trans rfl, (blk_cell BK15002.out 0).trans rfl, (blk_cell BK15002.out 1).trans rfl, (blk_cell BK15002.out 2).trans rfl⟩ (fun hHeld => ?_)
            clear hK K
            refine norm_ (a' := ?_) ?_ ?_
            rotate_left
            ·show Act.put _ (some 43) _ = _
             simp only [Act.put, List.setIfInBounds_toArray, List.set_cons_zero, List.set_cons_succ, i64_w, i32_w]
             rfl
            refine one_ (i := 5) (N := some 48) #[true, true, true, true, true, true, true, true, false, true, true, true, true, true, true, true, false, false] rfl rfl (one_of HT_.out (by kernel_rfl)) (by decide) (fun K hK => ?_)
            refine Kd.R_append_rows_step (Kd.int .u8) (w0 := w) w.heap.size (by rfl) (.tmp 43) (.tmp 47) 22 5 (.int .u8 0) 1 rfl Tryd.underlying22 info5 rfl (by decide) (by omega) v15007 y15006 (l0_2.take ((ji45) : Int).toNat) _ _ _ (fun _ => True) (fun _ => False) rfl rfl ?aO ?aR (fun _ _ h => h) (fun _ h => h.elim) ?aF ?aB ?aS ?aL ?_
            (case aR => first | (refine Eq.mp (congrArg (fun n_ => ReadsRow _ _ _ _ n_ _) (show (l0_2.take ((ji45) : Int).toNat).length = (ji45).toNat from (by rw [List.length_take]; have h_ : ((ji45) : Int) ≤ (l0_2.length : Int) := odt; omega))) ?_; repeat (first | exact (Kd.C_below HR15009.out HB.out) | (with_reducible refine Kd.C_alloc ?_ _) | (with_reducible refine Kd.C_drewN ?_ _) | (with_reducible refine Kd.C_drew ?_))) | (repeat (first | exact (Kd.C_below HR15009.out HB.out) | (with_reducible refine Kd.C_alloc ?_ _) | (with_reducible refine Kd.C_drewN ?_ _) | (with_reducible refine Kd.C_drew ?_))))
            (case aB => exact hbs)
            (case aF => exact (fun _ _ => trivial))
            (case aO => exact (hrnR HO15008))
            (case aS => exact (below_size hbs))
            (case aL => have := LMc48.out; have hlx_ := (show (l0_2.take ((ji45) : Int).toNat).length = (ji45).toNat from (by rw [List.length_take]; have h_ : ((ji45) : Int) ≤ (l0_2.length : Int) := odt; omega)); omega)
            intro v15011 w65 ho hb hg hat
            rw [← Ny15010.out] at ho
            have HO15012 := Aside0.mk (ho)
            replace BK15001 := Aside0.mk (blk_grown (g := gb15001) (o := .cells #[.int .i64 a0_0, .int .i64 a0_1, .slice A0_2 l0_2.length c0_2] 25 (0, 0)) (by refine pB ?_; exact BK15001.out) hg (Kd.R_ne HO15008.out BK15001.out (by decide)))
            replace BK15002 := Aside0.mk (blk_grown (g := gb15002) (o := .cells #[.int .i64 a1_0, .int .i64 a1_1, .slice A1_2 l1_2.length c1_2] 25 (0, 0)) (by refine pB ?_; exact BK15002.out) hg (Kd.R_ne HO15008.out BK15002.out (by decide)))
            replace BK15003 := Aside0.mk (blk_grown (g := gb15003) (o := .cells #[.int .i64 0, .int .i64 0, .slice none 0 0] 25 (0, 0)) (by refine pB ?_; exact BK15003.out) hg (Kd.R_ne HO15008.out BK15003.out (by decide)))
            replace HB := Aside0.mk (hb)
            clear HO15008
            clear ho hb hg hat
            refine hK.out _ _ ⟨(blk_cell BK15001.out 0).trans rfl, (blk_cell BK15001.out 1).trans rfl, (blk_cell BK15001.out 2).trans rfl, (blk_cell BK15002.out 0).trans rfl, (blk_cell BK15002.out 1).trans rfl, (blk_cell BK15002.out 2).trans rfl⟩ (fun hHeld => ?_)
            clear hK K
            refine norm_ (a' := ?_) ?_ ?_
            rotate_left
            ·show Act.put _ (some 48) _ = _
             simp only [Act.put, List.setIfInBounds_toArray, List.set_cons_zero, List.set_cons_succ, i64_w, i32_w]
             rfl
            refine one_ (i := 8) (N := some 51) #[true, true, true, true, true, true, true, true, true, true, true, true, true, true, true, true, false, false] rfl rfl (one_of HT_.out (by kernel_rfl)) (by decide) (fun K hK => ?_)
            refine Kd.R_append_rows_step (Kd.int .u8) (w0 := w) w.heap.size (by rfl) (.tmp 48) (.tmp 50) 22 5 (.int .u8 0) 1 rfl Tryd.underlying22 info5 rfl (by decide) (by omega) v15011 y15010 l1_2 _ _ _ (fun _ => True) (fun _ => False) rfl rfl ?aO ?aR (fun _ _ h => h) (fun _ h => h.elim) ?aF ?aB ?aS ?aL ?_
            (case aR => repeat (first | exact (Kd.C_below HR1_2.out HB.out) | (with_reducible refine Kd.C_alloc ?_ _) | (with_reducible refine Kd.C_drewN ?_ _) | (with_reducible refine Kd.C_drew ?_)))
            (case aB => exact hbs)
            (case aF => exact (fun _ _ => trivial))
            (case aO => exact (hrnR HO15012))
            (case aS => exact (below_size hbs))
            (case aL => have := LMc49.out; omega)
            intro v15014 w66 ho hb hg hat
            rw [← Ny15013.out] at ho
            have HO15015 := Aside0.mk (ho)
            replace BK15001 := Aside0.mk (blk_grown (g := gb15001) (o := .cells #[.int .i64 a0_0, .int .i64 a0_1, .slice A0_2 l0_2.length c0_2] 25 (0, 0)) (by refine pB ?_; exact BK15001.out) hg (Kd.R_ne HO15012.out BK15001.out (by decide)))
            replace BK15002 := Aside0.mk (blk_grown (g := gb15002) (o := .cells #[.int .i64 a1_0, .int .i64 a1_1, .slice A1_2 l1_2.length c1_2] 25 (0, 0)) (by refine pB ?_; exact BK15002.out) hg (Kd.R_ne HO15012.out BK15002.out (by decide)))
            replace BK15003 := Aside0.mk (blk_grown (g := gb15003) (o := .cells #[.int .i64 0, .int .i64 0, .slice none 0 0] 25 (0, 0)) (by refine pB ?_; exact BK15003.out) hg (Kd.R_ne HO15012.out BK15003.out (by decide)))
            replace HB := Aside0.mk (hb)
            clear HO15012
            clear ho hb hg hat
            refine hK.out _ _ ⟨(blk_cell BK15001.out 0).trans rfl, (blk_cell BK15001.out 1).trans rfl, (blk_cell BK15001.out 2).trans rfl, (blk_cell BK15002.out 0).trans rfl, (blk_cell BK15002.out 1).trans rfl, (blk_cell BK15002.out 2).trans rfl⟩ (fun hHeld => ?_)
            clear hK K
            refine norm_ (a' := ?_) ?_ ?_
            rotate_left
            ·show Act.put _ (some 51) _ = _
             simp only [Act.put, List.setIfInBounds_toArray, List.set_cons_zero, List.set_cons_succ, i64_w, i32_w]
             rfl
            refine one_ (i := 16) (N := some 59) #[true, true, true, true, true, true, true, true, true, true, true, true, true, true, true, true, true, false] rfl rfl (one_of HT_.out (by kernel_rfl)) (by decide) (fun K hK => ?_)
            refine Kd.R_append_rows_step (Kd.int .u8) (w0 := w) w.heap.size (by rfl) (.tmp 51) (.tmp 58) 22 5 (.int .u8 0) 1 rfl Tryd.underlying22 info5 rfl (by decide) (by omega) v15014 y15013 (l0_2.drop ((ji50) : Int).toNat) _ _ _ (fun _ => True) (fun _ => False) rfl rfl ?aO ?aR (fun _ _ h => h) (fun _ h => h.elim) ?aF ?aB ?aS ?aL ?_
            (case aR => first | (refine Eq.mp (congrArg (fun n_ => ReadsRow _ _ _ _ n_ _) (show (l0_2.drop ((ji50) : Int).toNat).length = (l0_2.length - (ji50).toNat) from List.length_drop)) ?_; repeat (first | exact (Kd.C_below HR15016.out HB.out) | (with_reducible refine Kd.C_alloc ?_ _) | (with_reducible refine Kd.C_drewN ?_ _) | (with_reducible refine Kd.C_drew ?_))) | (repeat (first | exact (Kd.C_below HR15016.out HB.out) | (with_reducible refine Kd.C_alloc ?_ _) | (with_reducible refine Kd.C_drewN ?_ _) | (with_reducible refine Kd.C_drew ?_))))
            (case aB => exact hbs)
            (case aF => exact (fun _ _ => trivial))
            (case aO => exact (hrnR HO15015))
            (case aS => exact (below_size hbs))
            (case aL => have := LMc53.out; have hlx_ := (show (l0_2.drop ((ji50) : Int).toNat).length = (l0_2.length - (ji50).toNat) from List.length_drop); omega)
            intro v15018 w67 ho hb hg hat
            rw [← Ny15017.out] at ho
            have HO15019 := Aside0.mk (ho)
            replace BK15001 := Aside0.mk (blk_grown (g := gb15001) (o := .cells #[.int .i64 a0_0, .int .i64 a0_1, .slice A0_2 l0_2.length c0_2] 25 (0, 0)) (by refine pB ?_; exact BK15001.out) hg (Kd.R_ne HO15015.out BK15001.out (by decide)))
            replace BK15002 := Aside0.mk (blk_grown (g := gb15002) (o := .cells #[.int .i64 a1_0, .int .i64 a1_1, .slice A1_2 l1_2.length c1_2] 25 (0, 0)) (by refine pB ?_; exact BK15002.out) hg (Kd.R_ne HO15015.out BK15002.out (by decide)))
            replace BK15003 := Aside0.mk (blk_grown (g := gb15003) (o := .cells #[.int .i64 0, .int .i64 0, .slice none 0 0] 25 (0, 0)) (by refine pB ?_; exact BK15003.out) hg (Kd.R_ne HO15015.out BK15003.out (by decide)))
            replace HB := Aside0.mk (hb)
            clear HO15015
            clear ho hb hg hat
            refine hK.out _ _ ⟨(blk_cell BK15001.out 0).trans rfl, (blk_cell BK15001.out 1).trans rfl, (blk_cell BK15001.out 2).trans rfl, (blk_cell BK15002.out 0).trans rfl, (blk_cell BK15002.out 1).trans rfl, (blk_cell BK15002.out 2).trans rfl⟩ (fun hHeld => ?_)
            clear hK K
            refine norm_ (a' := ?_) ?_ ?_
            rotate_left
            ·show Act.put _ (some 59) _ = _
             simp only [Act.put, List.setIfInBounds_toArray, List.set_cons_zero, List.set_cons_succ, i64_w, i32_w]
             rfl
            refine pureM 17 (some 7) #[true, true, true, true, true, true, true, true, true, true, true, true, true, true, true, true, true, true] (any_of HT_.out (by kernel_rfl)) ?_
            refine done_ (done_of HT_.out (by kernel_rfl)) ?_
            obtain ⟨Ao68, co68, eo68⟩ := Kd.R_slice HO15019.out
            subst eo68
            have hcz69_0 : w67.cell? ⟨gb15003, 0, none⟩ = some (.int .i64 0) := (blk_cell BK15003.out 0).trans rfl
            have hcz69_1 : w67.cell? ⟨gb15003, 1, none⟩ = some (.int .i64 0) := (blk_cell BK15003.out 1).trans rfl
            have hcz69_2 : w67.cell? ⟨gb15003, 2, none⟩ = some (.slice none 0 0) := (blk_cell BK15003.out 2).trans rfl
            have hfz69_0 := blk_frozen BK15003.out 0
            have hfz69_1 := blk_frozen BK15003.out 1
            have hfz69_2 := blk_frozen BK15003.out 2
            try go_wp2
            refine bodyPost_ret (results_ct rfl _ _ gb15003 25 #[.int .i64 0, .int .i64 0, .slice none 0 0] (0, 0) _ rfl (by refine pB ?_; refine blk_put (cs := #[.int .i64 0, .int .i64 0, .slice none 0 0]) ?_ 2 _ rfl; refine pB ?_; refine blk_put (cs := #[.int .i64 0, .int .i64 0, .slice none 0 0]) ?_ 1 _ rfl; refine pB ?_; refine blk_put (cs := #[.int .i64 0, .int .i64 0, .slice none 0 0]) ?_ 0 _ rfl; refine pB ?_; exact BK15003.out) Tryd.underlying25 rfl (by kernel_rfl)) rfl ?_
            exact ⟨_, by first | rfl | (simp [errW_none, errW_some] <;> rfl) | (simp only [← hji45, ← hji50]; first | rfl | (simp [errW_none, errW_some] <;> rfl)) | (simp [*, errW_none, errW_some] <;> rfl), by first | exact Kd.R_nil _ _ _ _ _ | exact Kd.N_nil _ _ _ _ _ | exact Kd.V_nil _ _ _ _ _ | exact Kd.Q_nil _ _ _ _ _ | exact Kd.S_nil _ _ _ _ _, hbs⟩
           ·rw [if_neg c54] at H
            have c54b0 : decide (400 < (y15017.length : Int)) = false := decide_eq_false c54
            have c54b1 : decide (400 < y15017.length) = false := decide_eq_false (by omega)
            clear c54
            simp only [Option.some.injEq, Prod.mk.injEq] at H
            obtain ⟨rfl, rfl, rfl, rfl⟩ := H
            have hnb70 := NB15002_15001.out
            have hnc70 := NB15001_15002.out
            have hnb71 := NB15002_15003.out
            have hnc71 := NB15003_15002.out
            have hcz72_0 : wc.cell? ⟨gb15002, 0, none⟩ = some (.int .i64 a1_0) := (blk_cell BK15002.out 0).trans rfl
            have hcz72_1 : wc.cell? ⟨gb15002, 1, none⟩ = some (.int .i64 a1_1) := (blk_cell BK15002.out 1).trans rfl
            have hcz72_2 : wc.cell? ⟨gb15002, 2, none⟩ = some (.slice A1_2 l1_2.length c1_2) := (blk_cell BK15002.out 2).trans rfl
            have hfz72_0 := blk_frozen BK15002.out 0
            have hfz72_1 := blk_frozen BK15002.out 1
            have hfz72_2 := blk_frozen BK15002.out 2
            have hnb73 := NB15001_15003.out
            have hnc73 := NB15003_15001.out
            have hcz74_0 : wc.cell? ⟨gb15001, 0, none⟩ = some (.int .i64 a0_0) := (blk_cell BK15001.out 0).trans rfl
            have hcz74_1 : wc.cell? ⟨gb15001, 1, none⟩ = some (.int .i64 a0_1) := (blk_cell BK15001.out 1).trans rfl
            have hcz74_2 : wc.cell? ⟨gb15001, 2, none⟩ = some (.slice A0_2 l0_2.length c0_2) := (blk_cell BK15001.out 2).trans rfl
            have hfz74_0 := blk_frozen BK15001.out 0
            have hfz74_1 := blk_frozen BK15001.out 1
            have hfz74_2 := blk_frozen BK15001.out 2
            try go_wp2
            replace BK15001 := Aside0.mk (blk_drew BK15001.out)
            replace BK15002 := Aside0.mk (blk_drew BK15002.out)
            replace BK15003 := Aside0.mk (blk_drew BK15003.out)
            replace HB := Aside0.mk (below_drew1 HB.out)
            obtain ⟨i076, hi076, _, hsz76, _⟩ := info_parts info5
            obtain ⟨hcut76, hA76, hC76⟩ := print_take_of (P := Tryd.prog) (Value.int .u8) 0 22 5 .i64 Tryd.underlying22 hi076 hsz76 A0_2 c0_2 l0_2 (ji45) (odt) (odt) HC0_2.out
            have HR15009 := Aside0.mk (Kd.C_of_reads (h1 := fun _ => rfl) (hA76 _ (Kd.reads_of_C HR0_2.out)))
            have HC15009 := Aside0.mk hC76
            clear hA76 hC76 hi076 hsz76
            obtain ⟨i077, hi077, _, hsz77, _⟩ := info_parts info5
            obtain ⟨A77, hcut77, hA77, hC77⟩ := print_drop_of (P := Tryd.prog) (Value.int .u8) 0 22 5 .i64 Tryd.underlying22 hi077 hsz77 A0_2 c0_2 l0_2 (ji50) (odt) (odt) HC0_2.out
            have HR15016 := Aside0.mk (Kd.C_of_reads (h1 := fun _ => rfl) (hA77 _ (Kd.reads_of_C HR0_2.out)))
            have HC15016 := Aside0.mk hC77
            clear hA77 hC77 hi077 hsz77
            refine start_ (n := 18) (S := fun w' => w'.cell? ⟨gb15001, 0, none⟩ = some (.int .i64 a0_0) ∧ w'.cell? ⟨gb15001, 1, none⟩ = some (.int .i64 a0_1) ∧ w'.cell? ⟨gb15001, 2, none⟩ = some (.slice A0_2 l0_2.length c0_2) ∧ w'.cell? ⟨gb15002, 0, none⟩ = some (.int .i64 a1_0) ∧ w'.cell? ⟨gb15002, 1, none⟩ = some (.int .i64 a1_1) ∧ w'.cell? ⟨gb15002, 2, none⟩ = some (.slice A1_2 l1_2.length c1_2)) (ds := []) #[false, false, false, false, false, false, false, false, false, false, false, false, false, false, false, false, false, false] (by kernel_rfl) rfl rfl ⟨(blk_cell BK15001.out 0).trans rfl, (blk_cell BK15001.out 1).trans rfl, (blk_cell BK15001.out 2).trans rfl, (blk_cell BK15002.out 0).trans rfl, (blk_cell BK15002.out 1).trans rfl, (blk_cell BK15002.out 2).trans rfl⟩ (fun hHeld => ?_); refine with_tabW spec_EditJoin.tab4 spec_EditJoin.bits4 (fun HT_ HW_ => ?_)
            generalize wc.drew = w75 at BK15001 BK15002 BK15003 HB HR15009 HR15016 hHeld ⊢
            refine pureM 1 (some 44) #[false, true, false, false, false, false, false, false, false, false, false, false, false, false, false, false, false, false] (any_of HT_.out (by kernel_rfl)) ?_
            refine pureM 3 (some 46) #[false, true, false, true, false, false, false, false, false, false, false, false, false, false, false, false, false, false] (any_of HT_.out (by kernel_rfl)) ?_
            refine pureM 6 (some 49) #[false, true, false, true, false, false, true, false, false, false, false, false, false, false, false, false, false, false] (any_of HT_.out (by kernel_rfl)) ?_
            refine pureM 9 (some 52) #[false, true, false, true, false, false, true, false, false, true, false, false, false, false, false, false, false, false] (any_of HT_.out (by kernel_rfl)) ?_
            refine pureM 11 (some 54) #[false, true, false, true, false, false, true, false, false, true, false, true, false, false, false, false, false, false] (any_of HT_.out (by kernel_rfl)) ?_
            refine pureM 12 (some 55) #[false, true, false, true, false, false, true, false, false, true, false, true, true, false, false, false, false, false] (any_of HT_.out (by kernel_rfl)) ?_
            refine take_ (i := 2) (N := some 45) (v := ?_) (a' := ?_) #[false, true, true, true, false, false, true, false, false, true, false, true, true, false, false, false, false, false] rfl rfl (take_ofW HT_.out HW_.out (by kernel_rfl)) (fun _ _ _ h => h) (Or.inl ⟨by rfl, ?_⟩) hHeld ?_ ?_
            rotate_left
            ·rintro w' ⟨s0, s1, s2, s3, s4, s5⟩
             go_simp
             with_reducible rfl
            rotate_left
            ·simp only [Act.put, List.setIfInBounds_toArray, List.set_cons_zero, List.set_cons_succ, i64_w, i32_w]
             rfl
            refine pureM 4 (some 47) #[false, true, true, true, true, false, true, false, false, true, false, true, true, false, false, false, false, false] (any_of HT_.out (by kernel_rfl)) ?_
            refine take_ (i := 7) (N := some 50) (v := ?_) (a' := ?_) #[false, true, true, true, true, false, true, true, false, true, false, true, true, false, false, false, false, false] rfl rfl (take_ofW HT_.out HW_.out (by kernel_rfl)) (fun _ _ _ h => h) (Or.inl ⟨by rfl, ?_⟩) hHeld ?_ ?_
            rotate_left
            ·rintro w' ⟨s0, s1, s2, s3, s4, s5⟩
             go_simp
             with_reducible rfl
            rotate_left
            ·simp only [Act.put, List.setIfInBounds_toArray, List.set_cons_zero, List.set_cons_succ, i64_w, i32_w]
             rfl
            refine take_ (i := 10) (N := some 53) (v := ?_) (a' := ?_) #[false, true, true, true, true, false, true, true, false, true, true, true, true, false, false, false, false, false] rfl rfl (take_ofW HT_.out HW_.out (by kernel_rfl)) (fun _ _ _ h => h) (Or.inl ⟨by rfl, ?_⟩) hHeld ?_ ?_
            rotate_left
            ·rintro w' ⟨s0, s1, s2, s3, s4, s5⟩
             go_simp
             with_reducible rfl
            rotate_left
            ·simp only [Act.put, List.setIfInBounds_toArray, List.set_cons_zero, List.set_cons_succ, i64_w, i32_w]
             rfl
            refine take_ (i := 13) (N := some 56) (v := ?_) (a' := ?_) #[false, true, true, true, true, false, true, true, false, true, true, true, true, true, false, false, false, false] rfl rfl (take_ofW HT_.out HW_.out (by kernel_rfl)) (fun _ _ _ h => h) (Or.inl ⟨by rfl, ?_⟩) hHeld ?_ ?_
            rotate_left
            ·rintro w' ⟨s0, s1, s2, s3, s4, s5⟩
             go_simp
             with_reducible rfl
            rotate_left
            ·simp only [Act.put, List.setIfInBounds_toArray, List.set_cons_zero, List.set_cons_succ, i64_w, i32_w]
             rfl
            refine pureM 14 (some 57) #[false, true, true, true, true, false, true, true, false, true, true, true, true, true, true, false, false, false] (any_of HT_.out (by kernel_rfl)) ?_
            refine pureM 15 (some 58) #[false, true, true, true, true, false, true, true, false, true, true, true, true, true, true, true, false, false] (any_of HT_.out (by kernel_rfl)) ?_
            refine one_ (i := 0) (N := some 43) #[true, true, true, true, true, false, true, true, false, true, true, true, true, true, true, true, false, false] rfl rfl (one_of HT_.out (by kernel_rfl)) (by decide) (fun K hK => ?_)
            refine Kd.R_lit_step (Kd.int .u8) _ 5 ?hg (N := 43) ?hd (xs := ([] : List Int)) (inner := []) (ok := fun _ => True) (okp := fun _ => True) ?hr ?hp (fun _ hk => hk) trivial (Below.refl _ _) (Nat.le_refl _) (by simp) ?_; (case hd => rfl); (case hg => rfl); (case hr => first | (go_simp; done) | (go_simp; rfl)); (case hp => exact (Reps.none _ _))
            intro v15007 w78 ho79 hb hg_ hnew_
            clear hg_ hnew_
            (first | rw [← Ny15006.out] at ho79 | (simp only [Int.reduceToNat] at ho79; rw [← Ny15006.out] at ho79))
            have HO15008 := Aside0.mk (Kd.R_lower ho79 (below_size hbs))
            replace BK15001 := Aside0.mk (bkb BK15001 hb)
            replace BK15002 := Aside0.mk (bkb BK15002 hb)
            replace BK15003 := Aside0.mk (bkb BK15003 hb)
            replace HB := Aside0.mk (below_step hbs hb)
            clear hb ho79
            refine hK.out _ _ ⟨(blk_cell BK15001.out 0).trans rfl, (blk_cell BK15001.out 1).trans rfl, (blk_cell BK15001.out 2).trans rfl, (blk_cell BK15002.out 0).trans rfl, (blk_cell BK15002.out 1).trans rfl, (blk_cell BK15002.out 2).trans rfl⟩ (fun hHeld => ?_)
            clear hK K
            refine norm_ (a' := ?_) ?_ ?_
            rotate_left
            ·show Act.put _ (some 43) _ = _
             simp only [Act.put, List.setIfInBounds_toArray, List.set_cons_zero, List.set_cons_succ, i64_w, i32_w]
             rfl
            refine one_ (i := 5) (N := some 48) #[true, true, true, true, true, true, true, true, false, true, true, true, true, true, true, true, false, false] rfl rfl (one_of HT_.out (by kernel_rfl)) (by decide) (fun K hK => ?_)
            refine Kd.R_append_rows_step (Kd.int .u8) (w0 := w) w.heap.size (by rfl) (.tmp 43) (.tmp 47) 22 5 (.int .u8 0) 1 rfl Tryd.underlying22 info5 rfl (by decide) (by omega) v15007 y15006 (l0_2.take ((ji45) : Int).toNat) _ _ _ (fun _ => True) (fun _ => False) rfl rfl ?aO ?aR (fun _ _ h => h) (fun _ h => h.elim) ?aF ?aB ?aS ?aL ?_
            (case aR => first | (refine Eq.mp (congrArg (fun n_ => ReadsRow _ _ _ _ n_ _) (show (l0_2.take ((ji45) : Int).toNat).length = (ji45).toNat from (by rw [List.length_take]; have h_ : ((ji45) : Int) ≤ (l0_2.length : Int) := odt; omega))) ?_; repeat (first | exact (Kd.C_below HR15009.out HB.out) | (with_reducible refine Kd.C_alloc ?_ _) | (with_reducible refine Kd.C_drewN ?_ _) | (with_reducible refine Kd.C_drew ?_))) | (repeat (first | exact (Kd.C_below HR15009.out HB.out) | (with_reducible refine Kd.C_alloc ?_ _) | (with_reducible refine Kd.C_drewN ?_ _) | (with_reducible refine Kd.C_drew ?_))))
            (case aB => exact hbs)
            (case aF => exact (fun _ _ => trivial))
            (case aO => exact (hrnR HO15008))
            (case aS => exact (below_size hbs))
            (case aL => have := LMc48.out; have hlx_ := (show (l0_2.take ((ji45) : Int).toNat).length = (ji45).toNat from (by rw [List.length_take]; have h_ : ((ji45) : Int) ≤ (l0_2.length : Int) := odt; omega)); omega)
            intro v15011 w80 ho hb hg hat
            rw [← Ny15010.out] at ho
            have HO15012 := Aside0.mk (ho)
            replace BK15001 := Aside0.mk (blk_grown (g := gb15001) (o := .cells #[.int .i64 a0_0, .int .i64 a0_1, .slice A0_2 l0_2.length c0_2] 25 (0, 0)) (by refine pB ?_; exact BK15001.out) hg (Kd.R_ne HO15008.out BK15001.out (by decide)))
            replace BK15002 := Aside0.mk (blk_grown (g := gb15002) (o := .cells #[.int .i64 a1_0, .int .i64 a1_1, .slice A1_2 l1_2.length c1_2] 25 (0, 0)) (by refine pB ?_; exact BK15002.out) hg (Kd.R_ne HO15008.out BK15002.out (by decide)))
            replace BK15003 := Aside0.mk (blk_grown (g := gb15003) (o := .cells #[.int .i64 0, .int .i64 0, .slice none 0 0] 25 (0, 0)) (by refine pB ?_; exact BK15003.out) hg (Kd.R_ne HO15008.out BK15003.out (by decide)))
            replace HB := Aside0.mk (hb)
            clear HO15008
            clear ho hb hg hat
            refine hK.out _ _ ⟨(blk_cell BK15001.out 0).trans rfl, (blk_cell BK15001.out 1).trans rfl, (blk_cell BK15001.out 2).trans rfl, (blk_cell BK15002.out 0).trans rfl, (blk_cell BK15002.out 1).trans rfl, (blk_cell BK15002.out 2).trans rfl⟩ (fun hHeld => ?_)
            clear hK K
            refine norm_ (a' := ?_) ?_ ?_
            rotate_left
            ·show Act.put _ (some 48) _ = _
             simp only [Act.put, List.setIfInBounds_toArray, List.set_cons_zero, List.set_cons_succ, i64_w, i32_w]
             rfl
            refine one_ (i := 8) (N := some 51) #[true, true, true, true, true, true, true, true, true, true, true, true, true, true, true, true, false, false] rfl rfl (one_of HT_.out (by kernel_rfl)) (by decide) (fun K hK => ?_)
            refine Kd.R_append_rows_step (Kd.int .u8) (w0 := w) w.heap.size (by rfl) (.tmp 48) (.tmp 50) 22 5 (.int .u8 0) 1 rfl Tryd.underlying22 info5 rfl (by decide) (by omega) v15011 y15010 l1_2 _ _ _ (fun _ => True) (fun _ => False) rfl rfl ?aO ?aR (fun _ _ h => h) (fun _ h => h.elim) ?aF ?aB ?aS ?aL ?_
            (case aR => repeat (first | exact (Kd.C_below HR1_2.out HB.out) | (with_reducible refine Kd.C_alloc ?_ _) | (with_reducible refine Kd.C_drewN ?_ _) | (with_reducible refine Kd.C_drew ?_)))
            (case aB => exact hbs)
            (case aF => exact (fun _ _ => trivial))
            (case aO => exact (hrnR HO15012))
            (case aS => exact (below_size hbs))
            (case aL => have := LMc49.out; omega)
            intro v15014 w81 ho hb hg hat
            rw [← Ny15013.out] at ho
            have HO15015 := Aside0.mk (ho)
            replace BK15001 := Aside0.mk (blk_grown (g := gb15001) (o := .cells #[.int .i64 a0_0, .int .i64 a0_1, .slice A0_2 l0_2.length c0_2] 25 (0, 0)) (by refine pB ?_; exact BK15001.out) hg (Kd.R_ne HO15012.out BK15001.out (by decide)))
            replace BK15002 := Aside0.mk (blk_grown (g := gb15002) (o := .cells #[.int .i64 a1_0, .int .i64 a1_1, .slice A1_2 l1_2.length c1_2] 25 (0, 0)) (by refine pB ?_; exact BK15002.out) hg (Kd.R_ne HO15012.out BK15002.out (by decide)))
            replace BK15003 := Aside0.mk (blk_grown (g := gb15003) (o := .cells #[.int .i64 0, .int .i64 0, .slice none 0 0] 25 (0, 0)) (by refine pB ?_; exact BK15003.out) hg (Kd.R_ne HO15012.out BK15003.out (by decide)))
            replace HB := Aside0.mk (hb)
            clear HO15012
            clear ho hb hg hat
            refine hK.out _ _ ⟨(blk_cell BK15001.out 0).trans rfl, (blk_cell BK15001.out 1).trans rfl, (blk_cell BK15001.out 2).trans rfl, (blk_cell BK15002.out 0).trans rfl, (blk_cell BK15002.out 1).trans rfl, (blk_cell BK15002.out 2).trans rfl⟩ (fun hHeld => ?_)
            clear hK K
            refine norm_ (a' := ?_) ?_ ?_
            rotate_left
            ·show Act.put _ (some 51) _ = _
             simp only [Act.put, List.setIfInBounds_toArray, List.set_cons_zero, List.set_cons_succ, i64_w, i32_w]
             rfl
            refine one_ (i := 16) (N := some 59) #[true, true, true, true, true, true, true, true, true, true, true, true, true, true, true, true, true, false] rfl rfl (one_of HT_.out (by kernel_rfl)) (by decide) (fun K hK => ?_)
            refine Kd.R_append_rows_step (Kd.int .u8) (w0 := w) w.heap.size (by rfl) (.tmp 51) (.tmp 58) 22 5 (.int .u8 0) 1 rfl Tryd.underlying22 info5 rfl (by decide) (by omega) v15014 y15013 (l0_2.drop ((ji50) : Int).toNat) _ _ _ (fun _ => True) (fun _ => False) rfl rfl ?aO ?aR (fun _ _ h => h) (fun _ h => h.elim) ?aF ?aB ?aS ?aL ?_
            (case aR => first | (refine Eq.mp (congrArg (fun n_ => ReadsRow _ _ _ _ n_ _) (show (l0_2.drop ((ji50) : Int).toNat).length = (l0_2.length - (ji50).toNat) from List.length_drop)) ?_; repeat (first | exact (Kd.C_below HR15016.out HB.out) | (with_reducible refine Kd.C_alloc ?_ _) | (with_reducible refine Kd.C_drewN ?_ _) | (with_reducible refine Kd.C_drew ?_))) | (repeat (first | exact (Kd.C_below HR15016.out HB.out) | (with_reducible refine Kd.C_alloc ?_ _) | (with_reducible refine Kd.C_drewN ?_ _) | (with_reducible refine Kd.C_drew ?_))))
            (case aB => exact hbs)
            (case aF => exact (fun _ _ => trivial))
            (case aO => exact (hrnR HO15015))
            (case aS => exact (below_size hbs))
            (case aL => have := LMc53.out; have hlx_ := (show (l0_2.drop ((ji50) : Int).toNat).length = (l0_2.length - (ji50).toNat) from List.length_drop); omega)
            intro v15018 w82 ho hb hg hat
            rw [← Ny15017.out] at ho
            have HO15019 := Aside0.mk (ho)
            replace BK15001 := Aside0.mk (blk_grown (g := gb15001) (o := .cells #[.int .i64 a0_0, .int .i64 a0_1, .slice A0_2 l0_2.length c0_2] 25 (0, 0)) (by refine pB ?_; exact BK15001.out) hg (Kd.R_ne HO15015.out BK15001.out (by decide)))
            replace BK15002 := Aside0.mk (blk_grown (g := gb15002) (o := .cells #[.int .i64 a1_0, .int .i64 a1_1, .slice A1_2 l1_2.length c1_2] 25 (0, 0)) (by refine pB ?_; exact BK15002.out) hg (Kd.R_ne HO15015.out BK15002.out (by decide)))
            replace BK15003 := Aside0.mk (blk_grown (g := gb15003) (o := .cells #[.int .i64 0, .int .i64 0, .slice none 0 0] 25 (0, 0)) (by refine pB ?_; exact BK15003.out) hg (Kd.R_ne HO15015.out BK15003.out (by decide)))
            replace HB := Aside0.mk (hb)
            clear HO15015
            clear ho hb hg hat
            refine hK.out _ _ ⟨(blk_cell BK15001.out 0).trans rfl, (blk_cell BK15001.out 1).trans rfl, (blk_cell BK15001.out 2).trans rfl, (blk_cell BK15002.out 0).trans rfl, (blk_cell BK15002.out 1).trans rfl, (blk_cell BK15002.out 2).trans rfl⟩ (fun hHeld => ?_)
            clear hK K
            refine norm_ (a' := ?_) ?_ ?_
            rotate_left
            ·show Act.put _ (some 59) _ = _
             simp only [Act.put, List.setIfInBounds_toArray, List.set_cons_zero, List.set_cons_succ, i64_w, i32_w]
             rfl
            refine pureM 17 (some 7) #[true, true, true, true, true, true, true, true, true, true, true, true, true, true, true, true, true, true] (any_of HT_.out (by kernel_rfl)) ?_
            refine done_ (done_of HT_.out (by kernel_rfl)) ?_
            obtain ⟨Ao83, co83, eo83⟩ := Kd.R_slice HO15019.out
            subst eo83
            have hcz84_0 : w82.cell? ⟨gb15001, 0, none⟩ = some (.int .i64 a0_0) := (blk_cell BK15001.out 0).trans rfl
            have hcz84_1 : w82.cell? ⟨gb15001, 1, none⟩ = some (.int .i64 a0_1) := (blk_cell BK15001.out 1).trans rfl
            have hcz84_2 : w82.cell? ⟨gb15001, 2, none⟩ = some (.slice A0_2 l0_2.length c0_2) := (blk_cell BK15001.out 2).trans rfl
            have hfz84_0 := blk_frozen BK15001.out 0
            have hfz84_1 := blk_frozen BK15001.out 1
            have hfz84_2 := blk_frozen BK15001.out 2
            have hcz85_0 : w82.cell? ⟨gb15003, 0, none⟩ = some (.int .i64 0) := (blk_cell BK15003.out 0).trans rfl
            have hcz85_1 : w82.cell? ⟨gb15003, 1, none⟩ = some (.int .i64 0) := (blk_cell BK15003.out 1).trans rfl
            have hcz85_2 : w82.cell? ⟨gb15003, 2, none⟩ = some (.slice none 0 0) := (blk_cell BK15003.out 2).trans rfl
            have hfz85_0 := blk_frozen BK15003.out 0
            have hfz85_1 := blk_frozen BK15003.out 1
            have hfz85_2 := blk_frozen BK15003.out 2
            try go_wp2
            refine bodyPost_ret (results_ct rfl _ _ gb15003 25 #[.int .i64 a0_0, .int .i64 a0_1, .slice Ao83 y15017.length co83] (0, 0) _ rfl (by refine pB ?_; refine blk_put (cs := #[.int .i64 a0_0, .int .i64 a0_1, .slice none 0 0]) ?_ 2 _ rfl; refine pB ?_; refine blk_put (cs := #[.int .i64 a0_0, .int .i64 0, .slice none 0 0]) ?_ 1 _ rfl; refine pB ?_; refine blk_put (cs := #[.int .i64 0, .int .i64 0, .slice none 0 0]) ?_ 0 _ rfl; refine pB ?_; exact BK15003.out) Tryd.underlying25 rfl (by kernel_rfl)) rfl ?_
            exact ⟨_, by first | rfl | (simp [errW_none, errW_some] <;> rfl) | (simp only [← hji45, ← hji50]; first | rfl | (simp [errW_none, errW_some] <;> rfl)) | (simp [*, errW_none, errW_some] <;> rfl), by (with_reducible repeat (first | apply Kd.R_alloc | apply Kd.R_drewN | apply Kd.R_drew)); exact Kd.R_mono (Kd.R_far (p := ⟨gb15003, 2, none⟩) (Kd.R_far (p := ⟨gb15003, 1, none⟩) (Kd.R_far (p := ⟨gb15003, 0, none⟩) (Kd.R_types HO15019.out BK15003.out (by decide)) (fun _ hk => hk.2) (.int .i64 a0_0)) (fun _ hk => hk.2) (.int .i64 a0_1)) (fun _ hk => hk.2) (.slice Ao83 y15017.length co83)) (fun _ hk => trivial), hbs⟩
          ·rw [if_neg c53] at H
           exact absurd H (by simp)
         ·rw [if_neg c52] at H
          exact absurd H (by simp)
        ·rw [if_neg c51] at H
         exact absurd H (by simp)
       ·rw [if_neg c49] at H
        exact absurd H (by simp)
      ·rw [if_neg c48] at H
       exact absurd H (by simp)
     ·rw [if_neg c47] at H
      exact absurd H (by simp)
    ·rw [if_neg c46] at H
     exact absurd H (by simp)
def impl_in.f (a0 : Int) (a1 : Int) (a2 : Int) : Option (Bool) := if a1 ≤ a0 then (some (decide (a0 ≤ a2))) else (some false)
set_option maxHeartbeats 8000000 in
set_option maxRecDepth 100000 in
theorem impl_in.calls (a0 : Int) (a1 : Int) (a2 : Int) (r : Bool) (w : World) (h : impl_in.f a0 a1 a2 = some r) :
  Calls Tryd.prog 123 #[.int .i64 a0, .int .i64 a1, .int .i64 a2] w fun e w' => e = .returned (.bool r) ∧ Drawn0 w w' := by
 have H : (if a1 ≤ a0 then (some (decide (a0 ≤ a2))) else (some false)) = some r := h
 clear h
 by_cases c4 : a1 ≤ a0
 ·rw [if_pos c4] at H
  have c4b0 : decide (a1 ≤ a0) = true := decide_eq_true c4
  clear c4
  obtain rfl := Option.some.inj H
  go_enter Tryd.func123, Tryd.ntmps123
  go_wp2
  go_ret
  exact ⟨by first | rfl | (simp; done) | (simp [*]; done), by repeat (first | exact Drawn0.refl _ | apply Drawn0.step)⟩
 ·rw [if_neg c4] at H
  have c4b0 : decide (a1 ≤ a0) = false := decide_eq_false c4
  clear c4
  obtain rfl := Option.some.inj H
  go_enter Tryd.func123, Tryd.ntmps123
  go_wp2
  go_ret
  exact ⟨by first | rfl | (simp; done) | (simp [*]; done), by repeat (first | exact Drawn0.refl _ | apply Drawn0.step)⟩
def impl_Edit_isSmall.f (a0_0 : Int) (a0_1 : Int) (l0_2 : List Int) : Option (Bool) := (impl_in.f a0_0 0 400).bind fun t68002 => (if t68002 = true then ((impl_in.f a0_1 0 400).bind fun t68003 => (if t68003 = true then (some (decide ((l0_2.length : Int) ≤ 400))) else (some false))) else (some false))
set_option maxHeartbeats 8000000 in
set_option maxRecDepth 100000 in
theorem impl_Edit_isSmall.calls (a0_0 : Int) (a0_1 : Int) (A0_2 : Option Addr) (c0_2 : Nat) (l0_2 : List Int) (r : Bool) (w : World) (hr0_2 : Kd.C (Kd.int .u8) w A0_2 l0_2.length l0_2) (hc0_2 : l0_2.length ≤ c0_2) (h : impl_Edit_isSmall.f a0_0 a0_1 l0_2 = some r) :
  Calls Tryd.prog 67 #[.agg #[.int .i64 a0_0, .int .i64 a0_1, .slice A0_2 l0_2.length c0_2]] w fun e w' => e = .returned (.bool r) ∧ Below w.heap.size w w' := by
 have hu25 := Tryd.underlying25
 have HR0_2 := Aside0.mk hr0_2
 have HC0_2 := Aside0.mk hc0_2
 clear hr0_2 hc0_2
 have HB := Aside0.mk (Below.refl w.heap.size w)
 have H : ((impl_in.f a0_0 0 400).bind fun t68002 => (if t68002 = true then ((impl_in.f a0_1 0 400).bind fun t68003 => (if t68003 = true then (some (decide ((l0_2.length : Int) ≤ 400))) else (some false))) else (some false))) = some r := h
 clear h
 replace H := Option.bind_eq_some_iff.mp H
 obtain ⟨t68002, A20, H⟩ := H
 replace H : (if t68002 = true then ((impl_in.f a0_1 0 400).bind fun t68003 => (if t68003 = true then (some (decide ((l0_2.length : Int) ≤ 400))) else (some false))) else (some false)) = some r := H
 have A2 := Aside0.mk A20
 clear A20
 by_cases c3 : t68002 = true
 ·subst c3
  have H1 : ((impl_in.f a0_1 0 400).bind fun t68003 => (if t68003 = true then (some (decide ((l0_2.length : Int) ≤ 400))) else (some false))) = some r := by rw [if_pos rfl] at H; exact H
  clear H
  have H := H1
  clear H1
  replace H := Option.bind_eq_some_iff.mp H
  obtain ⟨t68003, A40, H⟩ := H
  replace H : (if t68003 = true then (some (decide ((l0_2.length : Int) ≤ 400))) else (some false)) = some r := H
  have A4 := Aside0.mk A40
  clear A40
  by_cases c5 : t68003 = true
  ·subst c5
   have H1 : (some (decide ((l0_2.length : Int) ≤ 400))) = some r := by rw [if_pos rfl] at H; exact H
   clear H
   have H := H1
   clear H1
   obtain rfl := Option.some.inj H
   go_enter Tryd.func67, Tryd.ntmps67
   go_wp2_with (first | ((with_reducible refine gate_dst (N := 1) rfl ?_); (try (refine gate_guard (by rfl) ?_; dsimp only)); refine boxE 1 #[.int .i64 a0_0, .int .i64 a0_1, .slice A0_2 l0_2.length c0_2] 25 ?_; intro gb68001 hg w6 BK68001 hb; have GW68001 := Aside0.mk (gsz hg hbw : w.heap.size ≤ gb68001); have GE68001 := GW68001; replace HB := Aside0.mk (below_step hbw hb); clear hb hg; have hcz7_0 : w6.cell? ⟨gb68001, 0, none⟩ = some (.int .i64 a0_0) := (blk_cell BK68001.out 0).trans rfl; have hcz7_1 : w6.cell? ⟨gb68001, 1, none⟩ = some (.int .i64 a0_1) := (blk_cell BK68001.out 1).trans rfl; have hcz7_2 : w6.cell? ⟨gb68001, 2, none⟩ = some (.slice A0_2 l0_2.length c0_2) := (blk_cell BK68001.out 2).trans rfl; have hfz7_0 := blk_frozen BK68001.out 0; have hfz7_1 := blk_frozen BK68001.out 1; have hfz7_2 := blk_frozen BK68001.out 2) | ((with_reducible refine gate_callee (f := 123) rfl ?_); refine goesM (some 5) Tryd.func123 #[.int .i64 a0_0, .int .i64 0, .int .i64 400] ?_; (with_reducible refine (impl_in.calls a0_0 0 400 true _ A2.out).mono ?_); rintro e w' ⟨rfl, ⟨nd, rfl⟩⟩; refine ⟨_, rfl, ?_⟩) | (go_at_call 123; (with_reducible refine (impl_in.calls a0_1 0 400 true _ A4.out).mono ?_); rintro e w' ⟨rfl, ⟨nd, rfl⟩⟩))
   go_ret
   exact ⟨erf, hbs⟩
  ·replace c5 := Bool.eq_false_iff.mpr c5
   subst c5
   have H1 : (some false) = some r := by rw [if_neg (show ¬ (false = true) by decide)] at H; exact H
   clear H
   have H := H1
   clear H1
   obtain rfl := Option.some.inj H
   go_enter Tryd.func67, Tryd.ntmps67
   go_wp2_with (first | ((with_reducible refine gate_dst (N := 1) rfl ?_); (try (refine gate_guard (by rfl) ?_; dsimp only)); refine boxE 1 #[.int .i64 a0_0, .int .i64 a0_1, .slice A0_2 l0_2.length c0_2] 25 ?_; intro gb68001 hg w8 BK68001 hb; have GW68001 := Aside0.mk (gsz hg hbw : w.heap.size ≤ gb68001); have GE68001 := GW68001; replace HB := Aside0.mk (below_step hbw hb); clear hb hg; have hcz9_0 : w8.cell? ⟨gb68001, 0, none⟩ = some (.int .i64 a0_0) := (blk_cell BK68001.out 0).trans rfl; have hcz9_1 : w8.cell? ⟨gb68001, 1, none⟩ = some (.int .i64 a0_1) := (blk_cell BK68001.out 1).trans rfl; have hcz9_2 : w8.cell? ⟨gb68001, 2, none⟩ = some (.slice A0_2 l0_2.length c0_2) := (blk_cell BK68001.out 2).trans rfl; have hfz9_0 := blk_frozen BK68001.out 0; have hfz9_1 := blk_frozen BK68001.out 1; have hfz9_2 := blk_frozen BK68001.out 2) | ((with_reducible refine gate_callee (f := 123) rfl ?_); refine goesM (some 5) Tryd.func123 #[.int .i64 a0_0, .int .i64 0, .int .i64 400] ?_; (with_reducible refine (impl_in.calls a0_0 0 400 true _ A2.out).mono ?_); rintro e w' ⟨rfl, ⟨nd, rfl⟩⟩; refine ⟨_, rfl, ?_⟩) | (go_at_call 123; (with_reducible refine (impl_in.calls a0_1 0 400 false _ A4.out).mono ?_); rintro e w' ⟨rfl, ⟨nd, rfl⟩⟩))
   go_ret
   exact ⟨erf, hbs⟩
 ·replace c3 := Bool.eq_false_iff.mpr c3
  subst c3
  have H1 : (some false) = some r := by rw [if_neg (show ¬ (false = true) by decide)] at H; exact H
  clear H
  have H := H1
  clear H1
  obtain rfl := Option.some.inj H
  go_enter Tryd.func67, Tryd.ntmps67
  go_wp2_with (first | ((with_reducible refine gate_dst (N := 1) rfl ?_); (try (refine gate_guard (by rfl) ?_; dsimp only)); refine boxE 1 #[.int .i64 a0_0, .int .i64 a0_1, .slice A0_2 l0_2.length c0_2] 25 ?_; intro gb68001 hg w10 BK68001 hb; have GW68001 := Aside0.mk (gsz hg hbw : w.heap.size ≤ gb68001); have GE68001 := GW68001; replace HB := Aside0.mk (below_step hbw hb); clear hb hg; have hcz11_0 : w10.cell? ⟨gb68001, 0, none⟩ = some (.int .i64 a0_0) := (blk_cell BK68001.out 0).trans rfl; have hcz11_1 : w10.cell? ⟨gb68001, 1, none⟩ = some (.int .i64 a0_1) := (blk_cell BK68001.out 1).trans rfl; have hcz11_2 : w10.cell? ⟨gb68001, 2, none⟩ = some (.slice A0_2 l0_2.length c0_2) := (blk_cell BK68001.out 2).trans rfl; have hfz11_0 := blk_frozen BK68001.out 0; have hfz11_1 := blk_frozen BK68001.out 1; have hfz11_2 := blk_frozen BK68001.out 2) | ((with_reducible refine gate_callee (f := 123) rfl ?_); refine goesM (some 5) Tryd.func123 #[.int .i64 a0_0, .int .i64 0, .int .i64 400] ?_; (with_reducible refine (impl_in.calls a0_0 0 400 false _ A2.out).mono ?_); rintro e w' ⟨rfl, ⟨nd, rfl⟩⟩; refine ⟨_, rfl, ?_⟩))
  go_ret
  exact ⟨erf, hbs⟩
end Go.Proofs.YteapbiiffcchbaaDoor.P
namespace Go.Proofs.YteapbiiffcchbaaDoor.G
open Go.RowKit Go.Proofs.YteapbiiffcchbaaDoorW.PrintWords Go.Proofs.YteapbiiffcchbaaDoorW.PrintLast Go.Proofs.YteapbiiffcchbaaDoorW.PrintMore
set_option linter.unusedVariables false
theorem ginfo5 : (Tryd.prog.info? 5).map (fun i => (i.zero, i.size, i.bytes)) = some (some (.int .u8 0), 1, 1) := by kernel_rfl
def slices_Clone_byte_byte.f (l0 : List Int) : Option (List Int) := if l0.length < 140737488355328 then some l0 else none
set_option maxHeartbeats 1000000 in
set_option maxRecDepth 100000 in
theorem slices_Clone_byte_byte.calls (A0 : Option Addr) (c0 : Nat) (l0 : List Int) (r : List Int) (w : World) (hr0 : Kd.C (Kd.int .u8) w A0 l0.length l0) (hc0 : l0.length ≤ c0) (h : slices_Clone_byte_byte.f l0 = some r) :
    Calls Tryd.prog 83 #[.slice A0 l0.length c0] w fun e w' => ∃ v0_ : Value, e = .returned (v0_) ∧ Kd.R (Kd.int .u8) 5 w' w.heap.size (fun _ => True) v0_ r ∧ Below w.heap.size w w' := by
  unfold slices_Clone_byte_byte.f at h
  by_cases hl : l0.length < 140737488355328
  · rw [if_pos hl] at h
    obtain rfl := Option.some.inj h
    have LM := Aside0.mk hl
    clear h hl
    have HB := Aside0.mk (Below.refl w.heap.size w)
    have HR0 := Aside0.mk hr0
    have HC0 := Aside0.mk hc0
    clear hr0 hc0
    have heq := fun W => Lib.run_eql_slice_nil (P := Tryd.prog) W 22 5 A0 l0.length c0 0 0 Tryd.underlying22
    cases A0 with
    | none =>
      have hnil : l0 = [] := by
        rcases Nat.eq_zero_or_pos l0.length with h0 | h0
        · exact List.eq_nil_of_length_eq_zero h0
        · obtain ⟨ad, e, _⟩ := HR0.out.2.2 h0
          cases e
      subst hnil
      clear heq
      have heq := fun W => Lib.run_eql_slice_nil (P := Tryd.prog) W 22 5 none 0 c0 0 0 Tryd.underlying22
      go_enter Tryd.func83, Tryd.ntmps83
      go_wp2
      go_ret
      exact ⟨_, rfl, Kd.R_nil _ _ _ _ _, HB.out⟩
    | some ad =>
      go_enter Tryd.func83, Tryd.ntmps83
      go_wp2_with (first | ((with_reducible refine gate_dst (N := 5) rfl ?_); refine Kd.R_lit (Kd.int .u8) _ 5 ?hg (N := 5) ?hd (xs := ([] : List Int)) (inner := []) (ok := fun _ => True) (okp := fun _ => True) ?hr ?hp (fun _ hk => hk) trivial (Below.refl _ _) (Nat.le_refl _) (by simp) ?_; (case hd => rfl); (case hg => rfl); (case hr => first | (go_simp; done) | (go_simp; rfl)); (case hp => exact (Reps.none _ _)); intro v3 w7 ho8 hb hg_ hnew_; clear hg_ hnew_; have n0_ := Aside0.mk (Kd.R_lower ho8 (below_size (by repeat (first | (with_reducible first | exact HB.out | apply below_alloc | apply pw_below_drewN | apply below_drew1) | exact HB.out)))); have n1_ := Aside0.mk (below_step (by repeat (first | (with_reducible first | exact HB.out | apply below_alloc | apply pw_below_drewN | apply below_drew1) | exact HB.out)) hb); clear HB; have HO4 := n0_; have HB := n1_; clear n0_ n1_; clear hb ho8) | ((with_reducible refine gate_builtin (b := .append) (xs := #[.tmp 5, .tmp 6]) rfl ?_); at_builtin; refine Kd.R_append_rows (Kd.int .u8) (w0 := w) w.heap.size rfl (.tmp 5) (.tmp 6) 22 5 (.int .u8 0) 1 rfl Tryd.underlying22 ginfo5 rfl (by decide) (by omega) v3 [] l0 _ _ _ (fun _ => True) (fun _ => False) rfl rfl ?aO ?aR (fun _ _ h => h) (fun _ h => h.elim) ?aF ?aB ?aS ?aL ?_; (case aR => repeat (first | exact (Kd.C_below HR0.out HB.out) | (with_reducible refine Kd.C_alloc ?_ _) | (with_reducible refine Kd.C_drewN ?_ _) | (with_reducible refine Kd.C_drew ?_))); (case aB => exact (by repeat (first | (with_reducible first | exact HB.out | apply below_alloc | apply pw_below_drewN | apply below_drew1) | exact HB.out))); (case aF => exact (fun _ _ => trivial)); (case aO => exact (by (with_reducible repeat (first | apply Kd.R_alloc | apply Kd.R_drewN | apply Kd.R_drew)); exact HO4.out)); (case aS => exact (below_size (by repeat (first | (with_reducible first | exact HB.out | apply below_alloc | apply pw_below_drewN | apply below_drew1) | exact HB.out)))); (case aL => have := LM.out; simp; omega); intro v6 w9 ho hb hg hat; rw [List.nil_append] at ho; have n0_ := Aside0.mk (hb); have n1_ := Aside0.mk (ho); clear HB; clear HO4; have HB := n0_; have HO7 := n1_; clear n0_ n1_; clear ho hb hg hat))
      go_ret
      exact ⟨_, rfl, HO7.out, HB.out⟩
  · rw [if_neg hl] at h
    cases h
def slices_Grow_byte_byte.f (l0 : List Int) (a1 : Int) : Option (List Int) := if 0 ≤ a1 then (if a1 < 140737488355328 then some ([] : List Int) else none) else none
set_option maxHeartbeats 1000000 in
set_option maxRecDepth 100000 in
theorem slices_Grow_byte_byte.calls (A0 : Option Addr) (c0 : Nat) (l0 : List Int) (a1 : Int) (r : List Int) (w : World) (hr0 : Kd.C (Kd.int .u8) w A0 l0.length l0) (hc0 : l0.length ≤ c0) (hN : A0 = none ∧ c0 = 0) (h : slices_Grow_byte_byte.f l0 a1 = some r) :
    Calls Tryd.prog 148 #[.slice A0 l0.length c0, .int .i64 a1] w fun e w' => ∃ v0_ : Value, e = .returned (v0_) ∧ Kd.R (Kd.int .u8) 5 w' w.heap.size (fun _ => True) v0_ r ∧ Below w.heap.size w w' := by
  obtain ⟨rfl, rfl⟩ := hN
  obtain rfl : l0 = [] := List.eq_nil_of_length_eq_zero (Nat.le_zero.1 hc0)
  unfold slices_Grow_byte_byte.f at h
  by_cases h0 : 0 ≤ a1
  · rw [if_pos h0] at h
    by_cases hl : a1 < 140737488355328
    · rw [if_pos hl] at h
      obtain rfl := Option.some.inj h
      clear h hr0 hc0
      have HB := Aside0.mk (Below.refl w.heap.size w)
      have hnn : ¬ a1 < 0 := by omega
      have hs0 : ∀ W, (Instr.slice 22 (.slice none 0 0) none (some (.int .i64 0)) none).run Tryd.prog W = .ok (.slice none 0 0) W := fun W => by kernel_rfl
      by_cases hp : 0 < a1
      · go_enter Tryd.func148, Tryd.ntmps148
        go_wp2_with (first | ((with_reducible refine gate_builtin (b := .append) (xs := #[.tmp 20, .tmp 21]) rfl ?_); at_builtin; refine Kd.R_append_zeros (Kd.int .u8) (w0 := w) w.heap.size rfl (.tmp 20) (.tmp 21) 22 3 5 (.int .u8 0) 1 rfl Tryd.underlying22 Tryd.underlying3 ginfo5 rfl (by decide) (by omega) (.slice none 0 0) [] 0 a1 (fun _ => True) rfl rfl ?aZ (fun _ _ => trivial) ?aO ?a0 ?aB ?aS ?aL ?_; (case aZ => rfl); (case aO => exact Kd.R_nil _ _ _ _ _); (case a0 => omega); (case aB => exact HB.out); (case aS => exact Nat.le_refl _); (case aL => simp; omega); intro v6 w9 ho hb hg hat; obtain ⟨A9, c9, e9⟩ := Kd.R_slice ho; have n0_ := Aside0.mk (hb); have n1_ := Aside0.mk (ho); clear HB; have HB := n0_; have HO7 := n1_; clear n0_ n1_; clear ho hb hg hat; subst e9))
        go_ret
        exact ⟨_, rfl, by have h_ := Kd.R_take (m := 0) HO7.out (Nat.zero_le _); rwa [List.take_zero] at h_, HB.out⟩
      · have hz : a1 = 0 := by omega
        subst hz
        go_enter Tryd.func148, Tryd.ntmps148
        go_wp2
        go_ret
        exact ⟨_, rfl, Kd.R_nil _ _ _ _ _, HB.out⟩
    · rw [if_neg hl] at h
      cases h
  · rw [if_neg h0] at h
    cases h
end Go.Proofs.YteapbiiffcchbaaDoor.G
namespace Go.Proofs.YteapbiiffcchbaaDoor.P
open Go.Proofs.YteapbiiffcchbaaDoor.G
open Go.RowKit Go.Proofs.YteapbiiffcchbaaDoorW.PrintWords Go.Proofs.YteapbiiffcchbaaDoorW.PrintLast Go.Proofs.YteapbiiffcchbaaDoorW.PrintMore
attribute [local go_sem] max2_int min2_int max_two min_two max_three min_three max_four min_four
set_option linter.unusedVariables false
set_option linter.unusedSimpArgs false
mutual
def slices_Concat_byte_byte.l0 : Nat → List (List Int) → Int → List (List Int) → Int → Int → Option (List Int)
 | 0, _, _, _, _, _ => none
 | k + 1, x0, x3, x9, x10, x11 => if x11 < x10 then (if 0 ≤ x11 then (if x11 < (x9.length : Int) then (if (wrap64 (x3 + ((rd_L2 x9 x11).length : Int))) < 0 then (none) else (slices_Concat_byte_byte.l0 k x0 (wrap64 (x3 + ((rd_L2 x9 x11).length : Int))) x9 x10 (wrap64 (x11 + 1)))) else (none)) else (none)) else ((slices_Grow_byte_byte.f ([] : List Int) x3).bind fun t125002 => (slices_Concat_byte_byte.l1 k t125002 x0 (x0.length : Int) 0))
def slices_Concat_byte_byte.l1 : Nat → List Int → List (List Int) → Int → Int → Option (List Int)
 | 0, _, _, _, _ => none
 | k + 1, x6, x25, x26, x27 => if x27 < x26 then (if 0 ≤ x27 then (if x27 < (x25.length : Int) then (if x6.length + (rd_L2 x25 x27).length < 140737488355328 then (slices_Concat_byte_byte.l1 k (x6 ++ (rd_L2 x25 x27)) x25 x26 (wrap64 (x27 + 1))) else (none)) else (none)) else (none)) else (some x6)
end
def slices_Concat_byte_byte.f (k : Nat) (l0 : List (List Int)) : Option (List Int) := slices_Concat_byte_byte.l0 k l0 0 l0 (l0.length : Int) 0
theorem slices_Concat_byte_byte.mono_l : ∀ k, (∀ y0 y1 y2 y3 y4, LeO (slices_Concat_byte_byte.l0 k y0 y1 y2 y3 y4) (slices_Concat_byte_byte.l0 (k + 1) y0 y1 y2 y3 y4)) ∧ (∀ y0 y1 y2 y3, LeO (slices_Concat_byte_byte.l1 k y0 y1 y2 y3) (slices_Concat_byte_byte.l1 (k + 1) y0 y1 y2 y3))
 | 0 => ⟨fun _ _ _ _ _ r h => by simp [slices_Concat_byte_byte.l0] at h, fun _ _ _ _ r h => by simp [slices_Concat_byte_byte.l1] at h⟩
 | k + 1 => by
  obtain ⟨ih0, ih1⟩ := slices_Concat_byte_byte.mono_l k
  refine ⟨?_, ?_⟩
  ·intro y0 y1 y2 y3 y4
   unfold slices_Concat_byte_byte.l0
   repeat' first
   | (with_reducible exact ih0 _ _ _ _ _)
   | (with_reducible exact ih1 _ _ _ _)
   | (with_reducible exact LeO.refl _)
   | (with_reducible exact LeO.none _)
   | (with_reducible refine LeO.ite ?_ ?_)
   | (with_reducible refine LeO.bind ?_ (fun _ => ?_))
   | exact ih0 _ _ _ _ _
   | exact ih1 _ _ _ _
   | exact LeO.none _
   | refine LeO.ite ?_ ?_
   | refine LeO.bind ?_ (fun _ => ?_)
  ·intro y0 y1 y2 y3
   unfold slices_Concat_byte_byte.l1
   repeat' first
   | (with_reducible exact ih0 _ _ _ _ _)
   | (with_reducible exact ih1 _ _ _ _)
   | (with_reducible exact LeO.refl _)
   | (with_reducible exact LeO.none _)
   | (with_reducible refine LeO.ite ?_ ?_)
   | (with_reducible refine LeO.bind ?_ (fun _ => ?_))
   | exact ih0 _ _ _ _ _
   | exact ih1 _ _ _ _
   | exact LeO.none _
   | refine LeO.ite ?_ ?_
   | refine LeO.bind ?_ (fun _ => ?_)
theorem slices_Concat_byte_byte.mono : ∀ a0 k, LeO (slices_Concat_byte_byte.f k a0) (slices_Concat_byte_byte.f (k + 1) a0) := by
 intro a0 k
 obtain ⟨ih0, ih1⟩ := slices_Concat_byte_byte.mono_l k
 unfold slices_Concat_byte_byte.f
 repeat' first
   | (with_reducible exact ih0 _ _ _ _ _)
   | (with_reducible exact ih1 _ _ _ _)
   | (with_reducible exact LeO.refl _)
   | (with_reducible exact LeO.none _)
   | (with_reducible refine LeO.ite ?_ ?_)
   | (with_reducible refine LeO.bind ?_ (fun _ => ?_))
   | exact ih0 _ _ _ _ _
   | exact ih1 _ _ _ _
   | exact LeO.none _
   | refine LeO.ite ?_ ?_
   | refine LeO.bind ?_ (fun _ => ?_)
set_option maxHeartbeats 8000000 in
set_option maxRecDepth 100000 in
theorem slices_Concat_byte_byte.calls (k : Nat) (A0 : Option Addr) (c0 : Nat) (l0 : List (List Int)) (r : List Int) (w : World) (hr0 : Kd.C (Kd.slice 5 (Kd.int .u8)) w A0 l0.length l0) (hc0 : l0.length ≤ c0) (h : slices_Concat_byte_byte.f k l0 = some r) :
  Calls Tryd.prog 124 #[.slice A0 l0.length c0] w fun e w' => ∃ v0_ : Value, e = .returned (v0_) ∧ Kd.R (Kd.int .u8) 5 w' w.heap.size (fun _ => True) v0_ r ∧ Below w.heap.size w w' := by
 have HR0 := Aside0.mk hr0
 have HC0 := Aside0.mk hc0
 clear hr0 hc0
 have HB := Aside0.mk (Below.refl w.heap.size w)
 have H : (slices_Concat_byte_byte.l0 k l0 0 l0 (l0.length : Int) 0) = some r := h
 clear h
 have H' := Aside0.mk H
 clear H
 go_enter Tryd.func124, Tryd.ntmps124
 go_wp2
 go_loopg [3, 11] k (fun kq v3 v11 w' => ∃ (x3_1 : Int) (x11_1 : Int), v3 = .int .i64 x3_1 ∧ v11 = .int .i64 x11_1 ∧ Aside0 (slices_Concat_byte_byte.l0 kq l0 x3_1 l0 (l0.length : Int) x11_1 = some r) ∧ Aside0 (kq ≤ k) ∧ Aside0 (Below w.heap.size w w'))
 case atStart => exact ⟨(0), (0), rfs, rfs, H', ⟨Nat.le_refl _⟩, ⟨hbw⟩⟩
 case round =>
  clear H'
  try clear c1
  obtain ⟨x3_1, x11_1, rfl, rfl, HA, HK1, HB⟩ := hrel
  cases gk with
  | zero => exact absurd HA.out (by simp [slices_Concat_byte_byte.l0])
  | succ k1 =>
   have H := HA.out
   clear HA
   simp only [slices_Concat_byte_byte.l0] at H
   by_cases c2 : x11_1 < (l0.length : Int)
   ·rw [if_pos c2] at H
    have c2b0 : decide (x11_1 < (l0.length : Int)) = true := decide_eq_true c2
    clear c2
    by_cases c3 : 0 ≤ x11_1
    ·rw [if_pos c3] at H
     have c3b0 : decide (0 ≤ x11_1) = true := decide_eq_true c3
     clear c3
     by_cases c4 : x11_1 < (l0.length : Int)
     ·rw [if_pos c4] at H
      have c4b0 : decide (x11_1 < (l0.length : Int)) = true := decide_eq_true c4
      clear c4
      by_cases c5 : (wrap64 (x3_1 + ((rd_L2 l0 x11_1).length : Int))) < 0
      ·rw [if_pos c5] at H
       exact absurd H (by simp)
      ·rw [if_neg c5] at H
       have c5b0 : decide ((wrap64 (x3_1 + ((rd_L2 l0 x11_1).length : Int))) < 0) = false := decide_eq_false c5
       clear c5
       have H' := Aside0.mk H
       clear H
       have p125001 : 0 ≤ (x11_1 : Int) := odt
       have q125001 : x11_1 < (l0.length : Int) := odt
       obtain ⟨ad125001, A125001_0, c125001_0, e125001, hx125001_0, hl125001_0, hi125001_0⟩ := at_L2 HR0.out x11_1 p125001 q125001
       cases e125001
       replace hx125001_0 := (HB.out.cell (World.block_lt_of_cell? w _ hx125001_0)).trans hx125001_0
       have HR125001_0 := Aside0.mk hi125001_0
       have HC125001_0 := Aside0.mk hl125001_0
       clear hi125001_0 hl125001_0
       replace p125001 := eq_true p125001
       replace q125001 := eq_true q125001
       go_wp2
       go_roundg k1
       case measure => have := HK1.out; omega
       case rel => exact ⟨(wrap64 (x3_1 + ((rd_L2 l0 x11_1).length : Int))), (wrap64 (x11_1 + 1)), rfs, rfs, H', ⟨by have := HK1.out; omega⟩, ⟨hbw⟩⟩
     ·rw [if_neg c4] at H
      exact absurd H (by simp)
    ·rw [if_neg c3] at H
     exact absurd H (by simp)
   ·rw [if_neg c2] at H
    have c2b0 : decide (x11_1 < (l0.length : Int)) = false := decide_eq_false c2
    clear c2
    replace H := Option.bind_eq_some_iff.mp H
    obtain ⟨t125002, A60, H⟩ := H
    replace H : (slices_Concat_byte_byte.l1 k1 t125002 l0 (l0.length : Int) 0) = some r := H
    have A6 := Aside0.mk A60
    clear A60
    have H' := Aside0.mk H
    clear H
    go_wp2_with (first | ((with_reducible refine gate_callee (f := 148) rfl ?_); refine goesM (some 24) Tryd.func148 #[.slice none 0 0, .int .i64 x3_1] ?_; (refine (slices_Grow_byte_byte.calls _ _ ([] : List Int) x3_1 t125002 _ ?side1 ?side2 ?side3 A6.out).mono ?_); (case side1 => exact Kd.C_nil _ _); (case side2 => exact Nat.le_refl _); (case side3 => exact ⟨rfl, rfl⟩); rintro e w7 ⟨v125003, rfl, ho0, hb⟩; refine ⟨_, rfl, ?_⟩; have HO125004 := Aside0.mk (Kd.R_lower ho0 (below_size hbw)); replace HB := Aside0.mk (below_step hbw hb); (try clear hb); (try clear hb2); (try clear hk); (try clear hi); (try clear ho0)))
    go_loopg [6, 27] k1 (fun kq v6 v27 w' => ∃ (x6_2 : List Int) (x27_2 : Int), v27 = .int .i64 x27_2 ∧ Aside0 (slices_Concat_byte_byte.l1 kq x6_2 l0 (l0.length : Int) x27_2 = some r) ∧ Aside0 (kq ≤ k1) ∧ Aside0 (Kd.R (Kd.int .u8) 5 w' w.heap.size (fun _ => True) v6 x6_2) ∧ Aside0 (Below w.heap.size w w'))
    case atStart => exact ⟨(t125002), (0), rfs, H', ⟨Nat.le_refl _⟩, ⟨(hrnR HO125004)⟩, ⟨hbw⟩⟩
    case round =>
     clear H'
     try clear c1
     try clear p1
     try clear q1
     try clear hx1
     try clear c2
     try clear c2b0
     try clear p2
     try clear c3
     try clear c3b0
     try clear c4
     try clear c4b0
     try clear c5
     try clear c5b0
     try clear p6
     try clear hx125001_0
     try clear p125001
     try clear q125001
     obtain ⟨x6_2, x27_2, rfl, HA, HK2, HO_6, HB⟩ := hrel
     cases gk with
     | zero => exact absurd HA.out (by simp [slices_Concat_byte_byte.l1])
     | succ k2 =>
      have H := HA.out
      clear HA
      simp only [slices_Concat_byte_byte.l1] at H
      by_cases c8 : x27_2 < (l0.length : Int)
      ·rw [if_pos c8] at H
       have c8b0 : decide (x27_2 < (l0.length : Int)) = true := decide_eq_true c8
       clear c8
       by_cases c9 : 0 ≤ x27_2
       ·rw [if_pos c9] at H
        have c9b0 : decide (0 ≤ x27_2) = true := decide_eq_true c9
        clear c9
        by_cases c10 : x27_2 < (l0.length : Int)
        ·rw [if_pos c10] at H
         have c10b0 : decide (x27_2 < (l0.length : Int)) = true := decide_eq_true c10
         clear c10
         by_cases c11 : x6_2.length + (rd_L2 l0 x27_2).length < 140737488355328
         ·rw [if_pos c11] at H
          have LMc11 := Aside0.mk c11
          clear c11
          obtain ⟨y125006, hy125006⟩ : ∃ y_ : List Int, y_ = (x6_2 ++ (rd_L2 l0 x27_2)) := ⟨_, rfl⟩
          replace H : (slices_Concat_byte_byte.l1 k2 y125006 l0 (l0.length : Int) (wrap64 (x27_2 + 1))) = some r := repH hy125006 H
          have Ny125006 := Aside0.mk hy125006
          clear hy125006
          have H' := Aside0.mk H
          clear H
          have p125005 : 0 ≤ (x27_2 : Int) := odt
          have q125005 : x27_2 < (l0.length : Int) := odt
          obtain ⟨ad125005, A125005_0, c125005_0, e125005, hx125005_0, hl125005_0, hi125005_0⟩ := at_L2 HR0.out x27_2 p125005 q125005
          cases e125005
          replace hx125005_0 := (HB.out.cell (World.block_lt_of_cell? w _ hx125005_0)).trans hx125005_0
          have HR125005_0 := Aside0.mk hi125005_0
          have HC125005_0 := Aside0.mk hl125005_0
          clear hi125005_0 hl125005_0
          replace p125005 := eq_true p125005
          replace q125005 := eq_true q125005
          go_wp2_with (first | ((with_reducible refine gate_builtin (b := .append) (xs := #[.tmp 31, .tmp 32]) rfl ?_); at_builtin; refine Kd.R_append_rows (Kd.int .u8) (w0 := w) w.heap.size rfl (.tmp 31) (.tmp 32) 22 5 (.int .u8 0) 1 rfl Tryd.underlying22 info5 rfl (by decide) (by omega) u6 x6_2 (rd_L2 l0 x27_2) _ _ _ (fun _ => True) (fun _ => False) rfl rfl ?aO ?aR (fun _ _ h => h) (fun _ h => h.elim) ?aF ?aB ?aS ?aL ?_; (case aR => repeat (first | exact (Kd.C_below HR125005_0.out HB.out) | (with_reducible refine Kd.C_alloc ?_ _) | (with_reducible refine Kd.C_drewN ?_ _) | (with_reducible refine Kd.C_drew ?_))); (case aB => exact hbw); (case aF => exact (fun _ _ => trivial)); (case aO => exact (hrnR HO_6)); (case aS => exact (below_size hbw)); (case aL => have := LMc11.out; omega); intro v125007 w12 ho hb hg hat; rw [← Ny125006.out] at ho; have HO125008 := Aside0.mk (ho); replace HB := Aside0.mk (hb); clear HO_6; clear ho hb hg hat))
          go_roundg k2
          case measure => have := HK1.out; have := HK2.out; omega
          case rel => exact ⟨(y125006), (wrap64 (x27_2 + 1)), rfs, H', ⟨by have := HK1.out; have := HK2.out; omega⟩, ⟨(hrnR HO125008)⟩, ⟨hbw⟩⟩
         ·rw [if_neg c11] at H
          exact absurd H (by simp)
        ·rw [if_neg c10] at H
         exact absurd H (by simp)
       ·rw [if_neg c9] at H
        exact absurd H (by simp)
      ·rw [if_neg c8] at H
       have c8b0 : decide (x27_2 < (l0.length : Int)) = false := decide_eq_false c8
       clear c8
       obtain rfl := Option.some.inj H
       go_wp2
       go_ret
       exact ⟨_, erf, (hrnR HO_6), hbw⟩
def impl_Edit_do.f (k : Nat) (a0_0 : Int) (a0_1 : Int) (l0_2 : List Int) (l1 : List Int) : Option (List Int) := if 0 ≤ a0_0 then (if a0_0 ≤ (l1.length : Int) then (if 0 ≤ (wrap64 (a0_0 + a0_1)) then (if (wrap64 (a0_0 + a0_1)) ≤ (l1.length : Int) then ((slices_Concat_byte_byte.f k (([(l1.take (a0_0 : Int).toNat), l0_2, (l1.drop ((wrap64 (a0_0 + a0_1)) : Int).toNat)] : List (List Int)))).bind fun t69015 => (some t69015)) else (none)) else (none)) else (none)) else (none)
theorem impl_Edit_do.mono : ∀ a0 a1 a2 a3 k, LeO (impl_Edit_do.f k a0 a1 a2 a3) (impl_Edit_do.f (k + 1) a0 a1 a2 a3) := by
 intro a0 a1 a2 a3 k
 unfold impl_Edit_do.f
 repeat' first
   | (with_reducible exact slices_Concat_byte_byte.mono _ _)
   | (with_reducible exact LeO.refl _)
   | (with_reducible exact LeO.none _)
   | (with_reducible refine LeO.ite ?_ ?_)
   | (with_reducible refine LeO.bind ?_ (fun _ => ?_))
   | exact slices_Concat_byte_byte.mono _ _
   | exact LeO.none _
   | refine LeO.ite ?_ ?_
   | refine LeO.bind ?_ (fun _ => ?_)
def impl_Edit_do.T1 : Bool × List (List Nat × List Nat) := (true, [([], []), ([], []), ([1], [1]), ([0, 2], [0, 2]), ([], []), ([4], [4]), ([], []), ([], []), ([7], [7]), ([], []), ([9], [9]), ([8, 10], [8, 10]), ([6, 11], [6, 11]), ([3, 5, 12], [3, 5, 12]), ([13], [13]), ([14, 14, 0, 1, 2, 3, 4, 5, 6, 7, 8, 9, 10, 11, 12, 13, 14], [14])])
def impl_Edit_do.B1 : List Nat := [0, 0, 2, 7, 0, 16, 0, 0, 128, 0, 512, 1920, 4032, 8191, 16383, 32767]
theorem impl_Edit_do.tab1 : rtab .any (opsOf Tryd.f68 1) = impl_Edit_do.T1 := by kernel_rfl
theorem impl_Edit_do.bits1 : waitsOk impl_Edit_do.T1.2 impl_Edit_do.B1 = true := by kernel_rfl
set_option maxHeartbeats 8000000 in
set_option maxRecDepth 100000 in
theorem impl_Edit_do.calls (k : Nat) (a0_0 : Int) (a0_1 : Int) (P0_2_ : Nat → Prop) (A0_2 : Option Addr) (c0_2 : Nat) (l0_2 : List Int) (P1_ : Nat → Prop) (A1 : Option Addr) (c1 : Nat) (l1 : List Int) (r : List Int) (w : World) (hs0_2 : Kd.V (Kd.int .u8) 5 w w.heap.size (fun k_ => P0_2_ k_) (.slice A0_2 l0_2.length c0_2) l0_2) (hs1 : Kd.V (Kd.int .u8) 5 w w.heap.size (fun k_ => P1_ k_) (.slice A1 l1.length c1) l1) (h : impl_Edit_do.f k a0_0 a0_1 l0_2 l1 = some r) :
  Calls Tryd.prog 68 #[.agg #[.int .i64 a0_0, .int .i64 a0_1, .slice A0_2 l0_2.length c0_2], .slice A1 l1.length c1] w fun e w' => ∃ v0_ : Value, e = .returned (v0_) ∧ Kd.R (Kd.int .u8) 5 w' w.heap.size (fun k_ => (w.heap.size ≤ k_)) v0_ r ∧ Below w.heap.size w w' := by
 have hu25 := Tryd.underlying25
 have HO0_2 := Aside0.mk (show Kd.V (Kd.int .u8) 5 w w.heap.size (fun k_ => ((P0_2_ k_ ∨ P1_ k_) ∨ w.heap.size ≤ k_)) (.slice A0_2 l0_2.length c0_2) l0_2 from Kd.V_mono hs0_2 (fun k_ hk => .inl (.inl hk)))
 have HO1 := Aside0.mk (show Kd.V (Kd.int .u8) 5 w w.heap.size (fun k_ => ((P0_2_ k_ ∨ P1_ k_) ∨ w.heap.size ≤ k_)) (.slice A1 l1.length c1) l1 from Kd.V_mono hs1 (fun k_ hk => .inl (.inr hk)))
 have HB := Aside0.mk (Below.refl w.heap.size w)
 have H : (if 0 ≤ a0_0 then (if a0_0 ≤ (l1.length : Int) then (if 0 ≤ (wrap64 (a0_0 + a0_1)) then (if (wrap64 (a0_0 + a0_1)) ≤ (l1.length : Int) then ((slices_Concat_byte_byte.f k (([(l1.take (a0_0 : Int).toNat), l0_2, (l1.drop ((wrap64 (a0_0 + a0_1)) : Int).toNat)] : List (List Int)))).bind fun t69015 => (some t69015)) else (none)) else (none)) else (none)) else (none)) = some r := h
 clear h
 by_cases c3 : 0 ≤ a0_0
 ·rw [if_pos c3] at H
  have c3b0 := eq_true c3
  have c3b1 : decide (0 ≤ a0_0) = true := decide_eq_true c3
  clear c3
  by_cases c4 : a0_0 ≤ (l1.length : Int)
  ·rw [if_pos c4] at H
   have c4b0 := eq_true c4
   have c4b1 : decide (a0_0 ≤ (l1.length : Int)) = true := decide_eq_true c4
   clear c4
   obtain ⟨y69002, hy69002⟩ : ∃ y_ : List Int, y_ = (l1.take (a0_0 : Int).toNat) := ⟨_, rfl⟩
   replace H : (if 0 ≤ (wrap64 (a0_0 + a0_1)) then (if (wrap64 (a0_0 + a0_1)) ≤ (l1.length : Int) then ((slices_Concat_byte_byte.f k (([y69002, l0_2, (l1.drop ((wrap64 (a0_0 + a0_1)) : Int).toNat)] : List (List Int)))).bind fun t69015 => (some t69015)) else (none)) else (none)) = some r := repH hy69002 H
   have Ny69002 := Aside0.mk hy69002
   clear hy69002
   obtain ⟨ji5, hji5⟩ : ∃ j_ : Int, (wrap64 (a0_0 + a0_1)) = j_ := ⟨_, rfl⟩
   replace H : (if 0 ≤ (ji5) then (if (ji5) ≤ (l1.length : Int) then ((slices_Concat_byte_byte.f k (([y69002, l0_2, (l1.drop ((ji5) : Int).toNat)] : List (List Int)))).bind fun t69015 => (some t69015)) else (none)) else (none)) = some r := by first | (rw [hji5] at H; exact H) | (simp only [hji5] at H ⊢; exact H)
   have hji5w : (IntKind.i64.wrap (a0_0 + a0_1)) = ji5 := (i64_w _).trans hji5
   by_cases c6 : 0 ≤ (ji5)
   ·rw [if_pos c6] at H
    have c6b0 := eq_true c6
    have c6b1 : decide (0 ≤ (ji5)) = true := decide_eq_true c6
    clear c6
    by_cases c7 : (ji5) ≤ (l1.length : Int)
    ·rw [if_pos c7] at H
     have c7b0 := eq_true c7
     have c7b1 : decide ((ji5) ≤ (l1.length : Int)) = true := decide_eq_true c7
     clear c7
     obtain ⟨y69007, hy69007⟩ : ∃ y_ : List Int, y_ = (l1.drop ((ji5) : Int).toNat) := ⟨_, rfl⟩
     replace H : ((slices_Concat_byte_byte.f k (([y69002, l0_2, y69007] : List (List Int)))).bind fun t69015 => (some t69015)) = some r := repH hy69007 H
     have Ny69007 := Aside0.mk hy69007
     clear hy69007
     obtain ⟨y69012, hy69012⟩ : ∃ y_ : List (List Int), y_ = (([y69002, l0_2, y69007] : List (List Int))) := ⟨_, rfl⟩
     replace H : ((slices_Concat_byte_byte.f k y69012).bind fun t69015 => (some t69015)) = some r := repH hy69012 H
     have Ny69012 := Aside0.mk hy69012
     clear hy69012
     replace H := Option.bind_eq_some_iff.mp H
     obtain ⟨t69015, A80, H⟩ := H
     replace H : (some t69015) = some r := H
     have A8 := Aside0.mk A80
     clear A80
     obtain rfl := Option.some.inj H
     go_enter Tryd.func68, Tryd.ntmps68
     try go_wp2_with (first | ((with_reducible refine gate_dst (N := 2) rfl ?_); refine boxE 2 #[.int .i64 a0_0, .int .i64 a0_1, .slice A0_2 l0_2.length c0_2] 25 ?_; intro gb69001 hg w9 BK69001 hb; have GW69001 := Aside0.mk (gsz hg hbw : w.heap.size ≤ gb69001); have GE69001 := GW69001; replace HO0_2 := Aside0.mk (Kd.V_below (Kd.V_elderB (hrnV HO0_2) gb69001 (Nat.le_of_eq hg.symm)) hb); replace HO1 := Aside0.mk (Kd.V_below (Kd.V_elderB (hrnV HO1) gb69001 (Nat.le_of_eq hg.symm)) hb); replace HB := Aside0.mk (below_step hbw hb); clear hb hg))
     replace HO0_2 := Aside0.mk (Kd.V_drew HO0_2.out)
     replace HO1 := Aside0.mk (Kd.V_drew HO1.out)
     replace BK69001 := Aside0.mk (blk_drew BK69001.out)
     replace HB := Aside0.mk (below_drew1 HB.out)
     have q11 : (a0_0 : Int) ≤ ((l1.length : Int) : Int) := odt
     obtain ⟨i011, hi011, _, hsz11, _⟩ := info_parts info5
     have hroom11 : l1.length ≤ c1 := (Kd.V_reads' HO1.out).2.1
     have hC11 : Kd.F (Kd.int .u8) _ _ A1 l1.length l1 := (Kd.V_at (base := w.heap.size) HO1.out).2.2
     have hcut11 := cut_to (P := Tryd.prog) 22 5 .i64 Tryd.underlying22 hi011 A1 l1.length c1 a0_0 (odt) q11 hroom11
     have hr11 := Kd.F_take (m := (a0_0 : Int).toNat) hC11 (by omega)
     have hy11 : y69002.length = (a0_0 : Int).toNat := (by rw [Ny69002.out, List.length_take]; omega)
     rw [← Ny69002.out] at hr11
     rw [← hy11] at hcut11
     have HO69006 := Aside0.mk (show Kd.V (Kd.int .u8) 5 _ w.heap.size _ (.slice A1 y69002.length c1) y69002 from Kd.V_mk (by omega) hr11)
     have HC69006 := Aside0.mk (show y69002.length ≤ c1 from by omega)
     clear hr11 hC11 hroom11 hi011 hsz11
     have KY11 := Aside0.mk hy11
     clear hy11
     replace q11 := eq_true q11
     have q12 : ((ji5) : Int) ≤ ((l1.length : Int) : Int) := odt
     obtain ⟨i012, hi012, _, hsz12, _⟩ := info_parts info5
     have hroom12 : l1.length ≤ c1 := (Kd.V_reads' HO1.out).2.1
     have hC12 : Kd.F (Kd.int .u8) _ _ A1 l1.length l1 := (Kd.V_at (base := w.heap.size) HO1.out).2.2
     have q012 : (0 : Int) ≤ ((ji5) : Int) := odt
     have hcut12 := cut_from (P := Tryd.prog) 22 5 .i64 Tryd.underlying22 hi012 1 hsz12 A1 l1.length c1 (ji5) q012 q12
     have hr12 := Kd.F_cut (m := ((ji5) : Int).toNat) (c := c1) hC12 (by omega) hroom12
     obtain ⟨A12, hA12⟩ : ∃ A1_, A1_ = (if c1 = ((ji5) : Int).toNat then A1 else (A1 : Option Addr).map (·.add (((ji5) : Int).toNat * 1))) := ⟨_, rfl⟩
     obtain ⟨c12, hc12⟩ : ∃ c1_, c1_ = c1 - ((ji5) : Int).toNat := ⟨_, rfl⟩
     have hy12 : y69007.length = l1.length - ((ji5) : Int).toNat := (by rw [Ny69007.out, List.length_drop] <;> omega)
     rw [show (l1).drop ((ji5) : Int).toNat = y69007 from Ny69007.out.symm] at hr12
     replace hr12 : Kd.F (Kd.int .u8) _ _ A12 y69007.length y69007 := (by rw [hA12]; exact hr12)
     rw [← hy12, ← hA12, ← hc12] at hcut12
     have HO69011 := Aside0.mk (show Kd.V (Kd.int .u8) 5 _ w.heap.size _ (.slice A12 y69007.length c12) y69007 from Kd.V_mk (by rw [hy12, hc12]; exact Nat.sub_le_sub_right hroom12 _) hr12)
     have HC69011 := Aside0.mk (show y69007.length ≤ c12 from by rw [hy12, hc12]; exact Nat.sub_le_sub_right hroom12 _)
     clear hr12 hC12 hroom12 hi012 hsz12 hc12
     have KY12 := Aside0.mk hy12
     have KA12 := Aside0.mk hA12
     clear hy12 hA12
     replace q12 := eq_true q12
     refine start_ (n := 16) (S := fun w' => w'.cell? ⟨gb69001, 0, none⟩ = some (.int .i64 a0_0) ∧ w'.cell? ⟨gb69001, 1, none⟩ = some (.int .i64 a0_1) ∧ w'.cell? ⟨gb69001, 2, none⟩ = some (.slice A0_2 l0_2.length c0_2)) (ds := []) #[false, false, false, false, false, false, false, false, false, false, false, false, false, false, false, false] (by kernel_rfl) rfl rfl ⟨(blk_cell BK69001.out 0).trans rfl, (blk_cell BK69001.out 1).trans rfl, (blk_cell BK69001.out 2).trans rfl⟩ (fun hHeld => ?_); refine with_tabW impl_Edit_do.tab1 impl_Edit_do.bits1 (fun HT_ HW_ => ?_)
     generalize w9.drew = w10 at HO0_2 HO1 BK69001 HB HO69006 HO69011 hHeld ⊢
     refine pureM 0 (some 5) #[true, false, false, false, false, false, false, false, false, false, false, false, false, false, false, false] (any_of HT_.out (by kernel_rfl)) ?_
     refine pureM 1 (some 6) #[true, true, false, false, false, false, false, false, false, false, false, false, false, false, false, false] (any_of HT_.out (by kernel_rfl)) ?_
     refine pureM 4 (some 9) #[true, true, false, false, true, false, false, false, false, false, false, false, false, false, false, false] (any_of HT_.out (by kernel_rfl)) ?_
     refine pureM 6 (some 11) #[true, true, false, false, true, false, true, false, false, false, false, false, false, false, false, false] (any_of HT_.out (by kernel_rfl)) ?_
     refine pureM 7 (some 12) #[true, true, false, false, true, false, true, true, false, false, false, false, false, false, false, false] (any_of HT_.out (by kernel_rfl)) ?_
     refine pureM 9 (some 14) #[true, true, false, false, true, false, true, true, false, true, false, false, false, false, false, false] (any_of HT_.out (by kernel_rfl)) ?_
     refine take_ (i := 2) (N := some 7) (v := ?_) (a' := ?_) #[true, true, true, false, true, false, true, true, false, true, false, false, false, false, false, false] rfl rfl (take_ofW HT_.out HW_.out (by kernel_rfl)) (fun _ _ _ h => h) (Or.inl ⟨by rfl, ?_⟩) hHeld ?_ ?_
     rotate_left
     ·rintro w' ⟨s0, s1, s2⟩
      go_simp
      with_reducible rfl
     rotate_left
     ·simp only [Act.put, List.setIfInBounds_toArray, List.set_cons_zero, List.set_cons_succ, i64_w, i32_w]
      rfl
     refine pureM 3 (some 8) #[true, true, true, true, true, false, true, true, false, true, false, false, false, false, false, false] (any_of HT_.out (by kernel_rfl)) ?_
     refine take_ (i := 5) (N := some 10) (v := ?_) (a' := ?_) #[true, true, true, true, true, true, true, true, false, true, false, false, false, false, false, false] rfl rfl (take_ofW HT_.out HW_.out (by kernel_rfl)) (fun _ _ _ h => h) (Or.inl ⟨by rfl, ?_⟩) hHeld ?_ ?_
     rotate_left
     ·rintro w' ⟨s0, s1, s2⟩
      go_simp
      with_reducible rfl
     rotate_left
     ·simp only [Act.put, List.setIfInBounds_toArray, List.set_cons_zero, List.set_cons_succ, i64_w, i32_w]
      rfl
     refine take_ (i := 8) (N := some 13) (v := ?_) (a' := ?_) #[true, true, true, true, true, true, true, true, true, true, false, false, false, false, false, false] rfl rfl (take_ofW HT_.out HW_.out (by kernel_rfl)) (fun _ _ _ h => h) (Or.inl ⟨by rfl, ?_⟩) hHeld ?_ ?_
     rotate_left
     ·rintro w' ⟨s0, s1, s2⟩
      go_simp
      with_reducible rfl
     rotate_left
     ·simp only [Act.put, List.setIfInBounds_toArray, List.set_cons_zero, List.set_cons_succ, i64_w, i32_w]
      rfl
     refine take_ (i := 10) (N := some 15) (v := ?_) (a' := ?_) #[true, true, true, true, true, true, true, true, true, true, true, false, false, false, false, false] rfl rfl (take_ofW HT_.out HW_.out (by kernel_rfl)) (fun _ _ _ h => h) (Or.inl ⟨by rfl, ?_⟩) hHeld ?_ ?_
     rotate_left
     ·rintro w' ⟨s0, s1, s2⟩
      go_simp
      with_reducible rfl
     rotate_left
     ·simp only [Act.put, List.setIfInBounds_toArray, List.set_cons_zero, List.set_cons_succ, i64_w, i32_w]
      rfl
     refine pureM 11 (some 16) #[true, true, true, true, true, true, true, true, true, true, true, true, false, false, false, false] (any_of HT_.out (by kernel_rfl)) ?_
     refine pureM 12 (some 17) #[true, true, true, true, true, true, true, true, true, true, true, true, true, false, false, false] (any_of HT_.out (by kernel_rfl)) ?_
     refine one_ (i := 13) (N := some 18) #[true, true, true, true, true, true, true, true, true, true, true, true, true, true, false, false] rfl rfl (one_of HT_.out (by kernel_rfl)) (by decide) (fun K hK => ?_)
     refine Kd.N_lit_step (Kd.slice 5 (Kd.int .u8)) _ 22 ?hg (N' := 18) ?hd (xs := ([y69002, l0_2, y69007] : List (List Int))) (inner := [.slice A1 y69002.length c1, .slice A0_2 l0_2.length c0_2, .slice A12 y69007.length c12]) (ok := (fun k_ => ((P0_2_ k_ ∨ P1_ k_) ∨ w.heap.size ≤ k_) ∧ k_ ≠ gb69001)) (okp := (fun k_ => ((P0_2_ k_ ∨ P1_ k_) ∨ w.heap.size ≤ k_) ∧ k_ ≠ gb69001)) ?hr ?hp (fun _ hk => hk) ((show ∀ k_, w10.heap.size ≤ k_ → (fun k_ => ((P0_2_ k_ ∨ P1_ k_) ∨ w.heap.size ≤ k_) ∧ k_ ≠ gb69001) k_ from fun k_ hk => ⟨(.inr (Nat.le_trans (below_size hbs) hk)), Kd.freshB (g := gb69001) (o := .cells #[.int .i64 a0_0, .int .i64 a0_1, .slice A0_2 l0_2.length c0_2] 25 (0, 0)) (by refine pB ?_; exact BK69001.out) k_ hk⟩) _ (Nat.le_refl _)) (Below.refl _ _) (Nat.le_refl _) (by simp) ?_; (case hd => rfl); (case hg => rfl); (case hr => first | (go_simp; done) | (go_simp; rfl)); (case hp => exact (Reps.one (show Kd.FK (Kd.slice 5 (Kd.int .u8)) _ _ y69002 [.slice A1 y69002.length c1] from (Kd.FK_slice_mk (Kd.V_reads' (Kd.V_mono (ok' := (fun k_ => ((P0_2_ k_ ∨ P1_ k_) ∨ w.heap.size ≤ k_) ∧ k_ ≠ gb69001)) (HO69006.out) (fun k_ hk => ⟨hk.1, hk.2⟩))).2.1 (Kd.V_F (Kd.V_mono (ok' := (fun k_ => ((P0_2_ k_ ∨ P1_ k_) ∨ w.heap.size ≤ k_) ∧ k_ ≠ gb69001)) (HO69006.out) (fun k_ hk => ⟨hk.1, hk.2⟩))))) (Reps.one (show Kd.FK (Kd.slice 5 (Kd.int .u8)) _ _ l0_2 [.slice A0_2 l0_2.length c0_2] from (Kd.FK_slice_mk (Kd.V_reads' (Kd.V_mono (ok' := (fun k_ => ((P0_2_ k_ ∨ P1_ k_) ∨ w.heap.size ≤ k_) ∧ k_ ≠ gb69001)) (HO0_2.out) (fun k_ hk => ⟨hk.1, hk.2⟩))).2.1 (Kd.V_F (Kd.V_mono (ok' := (fun k_ => ((P0_2_ k_ ∨ P1_ k_) ∨ w.heap.size ≤ k_) ∧ k_ ≠ gb69001)) (HO0_2.out) (fun k_ hk => ⟨hk.1, hk.2⟩))))) (Reps.one (show Kd.FK (Kd.slice 5 (Kd.int .u8)) _ _ y69007 [.slice A12 y69007.length c12] from (Kd.FK_slice_mk (Kd.V_reads' (Kd.V_mono (ok' := (fun k_ => ((P0_2_ k_ ∨ P1_ k_) ∨ w.heap.size ≤ k_) ∧ k_ ≠ gb69001)) (HO69011.out) (fun k_ hk => ⟨hk.1, hk.2⟩))).2.1 (Kd.V_F (Kd.V_mono (ok' := (fun k_ => ((P0_2_ k_ ∨ P1_ k_) ∨ w.heap.size ≤ k_) ∧ k_ ≠ gb69001)) (HO69011.out) (fun k_ hk => ⟨hk.1, hk.2⟩))))) (Reps.none _ _)))))
     intro v69013 w13 ho14 hb hg_ hnew_
     clear hg_ hnew_
     (first | rw [← Ny69012.out] at ho14 | (simp only [Int.reduceToNat] at ho14; rw [← Ny69012.out] at ho14))
     have HO69014 := Aside0.mk (Kd.N_lower ho14 (below_size hbs))
     replace HO0_2 := Aside0.mk (Kd.V_elder' (hrnV HO0_2) (Kd.N_base ho14) hb)
     replace HO1 := Aside0.mk (Kd.V_elder' (hrnV HO1) (Kd.N_base ho14) hb)
     replace HO69006 := Aside0.mk (Kd.V_elder' (hrnV HO69006) (Kd.N_base ho14) hb)
     replace HO69011 := Aside0.mk (Kd.V_elder' (hrnV HO69011) (Kd.N_base ho14) hb)
     replace BK69001 := Aside0.mk (bkb BK69001 hb)
     replace HB := Aside0.mk (below_step hbs hb)
     clear hb ho14
     obtain ⟨Ao15, co15, eo15⟩ := Kd.N_slice HO69014.out
     (first | subst eo15 | (injection eo15 with f1_ f2_ f3_; have f4_ := f1_.symm; have f5_ := f3_.symm; clear f1_ f2_ f3_; subst f4_; subst f5_))
     refine hK.out _ _ ⟨(blk_cell BK69001.out 0).trans rfl, (blk_cell BK69001.out 1).trans rfl, (blk_cell BK69001.out 2).trans rfl⟩ (fun hHeld => ?_)
     clear hK K
     refine norm_ (a' := ?_) ?_ ?_
     rotate_left
     ·show Act.put _ (some 18) _ = _
      simp only [Act.put, List.setIfInBounds_toArray, List.set_cons_zero, List.set_cons_succ, i64_w, i32_w]
      rfl
     refine one_ (i := 14) (N := some 19) #[true, true, true, true, true, true, true, true, true, true, true, true, true, true, true, false] rfl rfl (one_of HT_.out (by kernel_rfl)) (by decide) (fun K hK => ?_)
     refine goes_ Tryd.func124 (by kernel_rfl) rfl #[.slice Ao15 y69012.length co15] (by rfl) rfl rfl (by (try simp only [List.map_toArray, List.map_cons, List.map_nil]); first | done | rfl | (simp only [List.length_drop, List.length_take]; rfl)) ?_
     with_reducible refine (slices_Concat_byte_byte.calls k _ _ y69012 t69015 _ ?side1 ?side2 A8.out).mono ?_
     (case side1 => exact cpl (Kd.N_reads' HO69014.out).2.2)
     (case side2 => exact (Kd.N_reads' HO69014.out).2.1)
     rintro e w16 ⟨v69016, rfl, ho0, hb⟩
     refine ⟨_, rfl, ?_⟩
     have HO69017 := Aside0.mk (Kd.R_lower (Kd.R_newM (M := fun k_ => (w.heap.size ≤ k_)) ho0 (below_size hbs) (fun k_ h_ => h_)) (below_size hbs))
     replace HO0_2 := Aside0.mk (Kd.V_elder' (hrnV HO0_2) (Kd.R_base ho0) hb)
     replace HO1 := Aside0.mk (Kd.V_elder' (hrnV HO1) (Kd.R_base ho0) hb)
     replace HO69006 := Aside0.mk (Kd.V_elder' (hrnV HO69006) (Kd.R_base ho0) hb)
     replace HO69011 := Aside0.mk (Kd.V_elder' (hrnV HO69011) (Kd.R_base ho0) hb)
     replace HO69014 := Aside0.mk (Kd.N_elder' (hrnN HO69014) (Kd.R_base ho0) hb)
     replace BK69001 := Aside0.mk (bkb BK69001 hb)
     replace HB := Aside0.mk (below_step hbs hb)
     (try clear hb)
     (try clear hb2)
     (try clear hk)
     (try clear hi)
     (try clear ho0)
     refine hK.out _ _ ⟨(blk_cell BK69001.out 0).trans rfl, (blk_cell BK69001.out 1).trans rfl, (blk_cell BK69001.out 2).trans rfl⟩ (fun hHeld => ?_)
     clear hK K
     refine norm_ (a' := ?_) ?_ ?_
     rotate_left
     ·show Act.put _ (some 19) _ = _
      simp only [Act.put, List.setIfInBounds_toArray, List.set_cons_zero, List.set_cons_succ, i64_w, i32_w]
      rfl
     refine pureM 15 (some 4) #[true, true, true, true, true, true, true, true, true, true, true, true, true, true, true, true] (any_of HT_.out (by kernel_rfl)) ?_
     refine done_ (done_of HT_.out (by kernel_rfl)) ?_
     try go_wp2
     go_ret
     exact ⟨_, by first | rfl | (simp [errW_none, errW_some] <;> rfl) | (simp only [← hji5]; first | rfl | (simp [errW_none, errW_some] <;> rfl)) | (simp [*, errW_none, errW_some] <;> rfl), by (with_reducible repeat (first | apply Kd.R_alloc | apply Kd.R_drewN | apply Kd.R_drew)); exact Kd.R_mono HO69017.out (fun _ hk => hk.1), hbs⟩
    ·rw [if_neg c7] at H
     exact absurd H (by simp)
   ·rw [if_neg c6] at H
    exact absurd H (by simp)
  ·rw [if_neg c4] at H
   exact absurd H (by simp)
 ·rw [if_neg c3] at H
  exact absurd H (by simp)
def impl_EditJoin.j0 : Nat → Bool → Int → Int → List Int → Int → Int → List Int → Option (Int × Int × List Int × Bool)
 | 0, _, _, _, _, _, _, _ => none
 | k + 1, x35, x16002000, x16002001, x16002002, x16003000, x16003001, x16003002 => if x35 = true then (some (0, 0, ([] : List Int), false)) else ((impl_Edit_do.f k (wrap64 (x16003000 - x16002000)) x16003001 x16003002 x16002002).bind fun t16006 => (if (t16006.length : Int) > 400 then (some (0, 0, ([] : List Int), false)) else (some (x16002000, x16002001, t16006, true))))
def impl_EditJoin.f (k : Nat) (a0_0 : Int) (a0_1 : Int) (l0_2 : List Int) (a1_0 : Int) (a1_1 : Int) (l1_2 : List Int) : Option (Int × Int × List Int × Bool) := (impl_Edit_isSmall.f a0_0 a0_1 l0_2).bind fun t16004 => (if t16004 = true then ((impl_Edit_isSmall.f a1_0 a1_1 l1_2).bind fun t16005 => (if t16005 = true then (if a1_0 < a0_0 then (impl_EditJoin.j0 k true a0_0 a0_1 l0_2 a1_0 a1_1 l1_2) else (impl_EditJoin.j0 k (decide ((wrap64 (a1_0 + a1_1)) > (wrap64 (a0_0 + (l0_2.length : Int))))) a0_0 a0_1 l0_2 a1_0 a1_1 l1_2)) else (impl_EditJoin.j0 k true a0_0 a0_1 l0_2 a1_0 a1_1 l1_2))) else (impl_EditJoin.j0 k true a0_0 a0_1 l0_2 a1_0 a1_1 l1_2))
theorem impl_EditJoin.mono_l : ∀ k, (∀ y0 y1 y2 y3 y4 y5 y6, LeO (impl_EditJoin.j0 k y0 y1 y2 y3 y4 y5 y6) (impl_EditJoin.j0 (k + 1) y0 y1 y2 y3 y4 y5 y6))
 | 0 => fun _ _ _ _ _ _ _ r h => by simp [impl_EditJoin.j0] at h
 | k + 1 => by
  have ih0 := impl_EditJoin.mono_l k
  ·intro y0 y1 y2 y3 y4 y5 y6
   unfold impl_EditJoin.j0
   repeat' first
   | (with_reducible exact ih0 _ _ _ _ _ _ _)
   | (with_reducible exact impl_Edit_do.mono _ _ _ _ _)
   | (with_reducible exact LeO.refl _)
   | (with_reducible exact LeO.none _)
   | (with_reducible refine LeO.ite ?_ ?_)
   | (with_reducible refine LeO.bind ?_ (fun _ => ?_))
   | exact ih0 _ _ _ _ _ _ _
   | exact impl_Edit_do.mono _ _ _ _ _
   | exact LeO.none _
   | refine LeO.ite ?_ ?_
   | refine LeO.bind ?_ (fun _ => ?_)
theorem impl_EditJoin.mono : ∀ a0 a1 a2 a3 a4 a5 k, LeO (impl_EditJoin.f k a0 a1 a2 a3 a4 a5) (impl_EditJoin.f (k + 1) a0 a1 a2 a3 a4 a5) := by
 intro a0 a1 a2 a3 a4 a5 k
 have ih0 := impl_EditJoin.mono_l k
 unfold impl_EditJoin.f
 repeat' first
   | (with_reducible exact ih0 _ _ _ _ _ _ _)
   | (with_reducible exact impl_Edit_do.mono _ _ _ _ _)
   | (with_reducible exact LeO.refl _)
   | (with_reducible exact LeO.none _)
   | (with_reducible refine LeO.ite ?_ ?_)
   | (with_reducible refine LeO.bind ?_ (fun _ => ?_))
   | exact ih0 _ _ _ _ _ _ _
   | exact impl_Edit_do.mono _ _ _ _ _
   | exact LeO.none _
   | refine LeO.ite ?_ ?_
   | refine LeO.bind ?_ (fun _ => ?_)
set_option maxHeartbeats 8000000 in
set_option maxRecDepth 100000 in
theorem impl_EditJoin.calls (k : Nat) (a0_0 : Int) (a0_1 : Int) (A0_2 : Option Addr) (c0_2 : Nat) (l0_2 : List Int) (a1_0 : Int) (a1_1 : Int) (A1_2 : Option Addr) (c1_2 : Nat) (l1_2 : List Int) (r1 : Int) (r2 : Int) (r3 : List Int) (r4 : Bool) (w : World) (hr0_2 : Kd.C (Kd.int .u8) w A0_2 l0_2.length l0_2) (hc0_2 : l0_2.length ≤ c0_2) (hr1_2 : Kd.C (Kd.int .u8) w A1_2 l1_2.length l1_2) (hc1_2 : l1_2.length ≤ c1_2) (h : impl_EditJoin.f k a0_0 a0_1 l0_2 a1_0 a1_1 l1_2 = some (r1, r2, r3, r4)) :
  Calls Tryd.prog 15 #[.agg #[.int .i64 a0_0, .int .i64 a0_1, .slice A0_2 l0_2.length c0_2], .agg #[.int .i64 a1_0, .int .i64 a1_1, .slice A1_2 l1_2.length c1_2]] w fun e w' => ∃ v2_ : Value, e = .returned (.tuple #[.agg #[.int .i64 r1, .int .i64 r2, v2_], .bool r4]) ∧ Kd.R (Kd.int .u8) 5 w' w.heap.size (fun _ => True) v2_ r3 ∧ Below w.heap.size w w' := by
 have hu25 := Tryd.underlying25
 have HR0_2 := Aside0.mk hr0_2
 have HC0_2 := Aside0.mk hc0_2
 clear hr0_2 hc0_2
 have HR1_2 := Aside0.mk hr1_2
 have HC1_2 := Aside0.mk hc1_2
 clear hr1_2 hc1_2
 have HB := Aside0.mk (Below.refl w.heap.size w)
 have H : ((impl_Edit_isSmall.f a0_0 a0_1 l0_2).bind fun t16004 => (if t16004 = true then ((impl_Edit_isSmall.f a1_0 a1_1 l1_2).bind fun t16005 => (if t16005 = true then (if a1_0 < a0_0 then (impl_EditJoin.j0 k true a0_0 a0_1 l0_2 a1_0 a1_1 l1_2) else (impl_EditJoin.j0 k (decide ((wrap64 (a1_0 + a1_1)) > (wrap64 (a0_0 + (l0_2.length : Int))))) a0_0 a0_1 l0_2 a1_0 a1_1 l1_2)) else (impl_EditJoin.j0 k true a0_0 a0_1 l0_2 a1_0 a1_1 l1_2))) else (impl_EditJoin.j0 k true a0_0 a0_1 l0_2 a1_0 a1_1 l1_2))) = some (r1, r2, r3, r4) := h
 clear h
 have HC3 := Aside0.mk H
 clear H
 go_enter Tryd.func15, Tryd.ntmps15
 go_upto_region 1 with (first | ((with_reducible refine gate_dst (N := 2) rfl ?_); (try (refine gate_guard (by rfl) ?_; dsimp only)); refine boxE 2 #[.int .i64 a0_0, .int .i64 a0_1, .slice A0_2 l0_2.length c0_2] 25 ?_; intro gb16001 hg w4 BK16001 hb; have GW16001 := Aside0.mk (gsz hg hbw : w.heap.size ≤ gb16001); have GE16001 := GW16001; replace HB := Aside0.mk (below_step hbw hb); clear hb hg) | ((with_reducible refine gate_dst (N := 3) rfl ?_); (try (refine gate_guard (by rfl) ?_; dsimp only)); refine boxE 3 #[.int .i64 a1_0, .int .i64 a1_1, .slice A1_2 l1_2.length c1_2] 25 ?_; intro gb16002 hg w5 BK16002 hb; have GW16002 := Aside0.mk (gsz hg hbs : w.heap.size ≤ gb16002); have GE16002 := GW16002; have NB16001_16002 := Aside0.mk (nbl BK16001 hg); have NB16002_16001 := Aside0.mk (nbg BK16001 hg); replace BK16001 := Aside0.mk (bkb BK16001 hb); replace HB := Aside0.mk (below_step hbs hb); clear hb hg) | ((with_reducible refine gate_dst (N := 4) rfl ?_); (try (refine gate_guard (by rfl) ?_; dsimp only)); refine boxE 4 #[.int .i64 0, .int .i64 0, .slice none 0 0] 25 ?_; intro gb16003 hg w6 BK16003 hb; have GW16003 := Aside0.mk (gsz hg hbs : w.heap.size ≤ gb16003); have GE16003 := GW16003; have NB16001_16003 := Aside0.mk (nbl BK16001 hg); have NB16003_16001 := Aside0.mk (nbg BK16001 hg); have NB16002_16003 := Aside0.mk (nbl BK16002 hg); have NB16003_16002 := Aside0.mk (nbg BK16002 hg); replace BK16001 := Aside0.mk (bkb BK16001 hb); replace BK16002 := Aside0.mk (bkb BK16002 hb); replace HB := Aside0.mk (below_step hbs hb); clear hb hg))
 (try simp only [Act.put, List.setIfInBounds_toArray, List.set_cons_zero, List.set_cons_succ])
 go_cut [35] (fun v35 wc => ∃ (kq : Nat) (x35_2 : Bool), v35 = .bool x35_2 ∧ Aside0 (impl_EditJoin.j0 kq x35_2 a0_0 a0_1 l0_2 a1_0 a1_1 l1_2 = some (r1, r2, r3, r4)) ∧ Aside0 (kq ≤ k) ∧ Aside0 (wc.heap[gb16001]? = some (.cells #[.int .i64 a0_0, .int .i64 a0_1, (.slice A0_2 l0_2.length c0_2)] 25 (0, 0))) ∧ Aside0 (wc.heap[gb16002]? = some (.cells #[.int .i64 a1_0, .int .i64 a1_1, (.slice A1_2 l1_2.length c1_2)] 25 (0, 0))) ∧ Aside0 (wc.heap[gb16003]? = some (.cells #[.int .i64 0, .int .i64 0, (.slice none 0 0)] 25 (0, 0))) ∧ Aside0 (Below w.heap.size w wc))
 case first =>
  have H := HC3.out
  clear HC3
  replace H := Option.bind_eq_some_iff.mp H
  obtain ⟨t16004, A70, H⟩ := H
  replace H : (if t16004 = true then ((impl_Edit_isSmall.f a1_0 a1_1 l1_2).bind fun t16005 => (if t16005 = true then (if a1_0 < a0_0 then (impl_EditJoin.j0 k true a0_0 a0_1 l0_2 a1_0 a1_1 l1_2) else (impl_EditJoin.j0 k (decide ((wrap64 (a1_0 + a1_1)) > (wrap64 (a0_0 + (l0_2.length : Int))))) a0_0 a0_1 l0_2 a1_0 a1_1 l1_2)) else (impl_EditJoin.j0 k true a0_0 a0_1 l0_2 a1_0 a1_1 l1_2))) else (impl_EditJoin.j0 k true a0_0 a0_1 l0_2 a1_0 a1_1 l1_2)) = some (r1, r2, r3, r4) := H
  have A7 := Aside0.mk A70
  clear A70
  by_cases c8 : t16004 = true
  ·subst c8
   have H1 : ((impl_Edit_isSmall.f a1_0 a1_1 l1_2).bind fun t16005 => (if t16005 = true then (if a1_0 < a0_0 then (impl_EditJoin.j0 k true a0_0 a0_1 l0_2 a1_0 a1_1 l1_2) else (impl_EditJoin.j0 k (decide ((wrap64 (a1_0 + a1_1)) > (wrap64 (a0_0 + (l0_2.length : Int))))) a0_0 a0_1 l0_2 a1_0 a1_1 l1_2)) else (impl_EditJoin.j0 k true a0_0 a0_1 l0_2 a1_0 a1_1 l1_2))) = some (r1, r2, r3, r4) := by rw [if_pos rfl] at H; exact H
   clear H
   have H := H1
   clear H1
   replace H := Option.bind_eq_some_iff.mp H
   obtain ⟨t16005, A90, H⟩ := H
   replace H : (if t16005 = true then (if a1_0 < a0_0 then (impl_EditJoin.j0 k true a0_0 a0_1 l0_2 a1_0 a1_1 l1_2) else (impl_EditJoin.j0 k (decide ((wrap64 (a1_0 + a1_1)) > (wrap64 (a0_0 + (l0_2.length : Int))))) a0_0 a0_1 l0_2 a1_0 a1_1 l1_2)) else (impl_EditJoin.j0 k true a0_0 a0_1 l0_2 a1_0 a1_1 l1_2)) = some (r1, r2, r3, r4) := H
   have A9 := Aside0.mk A90
   clear A90
   by_cases c10 : t16005 = true
   ·subst c10
    have H1 : (if a1_0 < a0_0 then (impl_EditJoin.j0 k true a0_0 a0_1 l0_2 a1_0 a1_1 l1_2) else (impl_EditJoin.j0 k (decide ((wrap64 (a1_0 + a1_1)) > (wrap64 (a0_0 + (l0_2.length : Int))))) a0_0 a0_1 l0_2 a1_0 a1_1 l1_2)) = some (r1, r2, r3, r4) := by rw [if_pos rfl] at H; exact H
    clear H
    have H := H1
    clear H1
    by_cases c11 : a1_0 < a0_0
    ·rw [if_pos c11] at H
     have c11b0 : decide (a1_0 < a0_0) = true := decide_eq_true c11
     clear c11
     (first | rw [c11b0] | (simp only [i64_w, i32_w]; rw [c11b0]) | skip)
     have H' := Aside0.mk H
     clear H
     have hnb12 := NB16001_16002.out
     have hnc12 := NB16002_16001.out
     have hnb13 := NB16001_16003.out
     have hnc13 := NB16003_16001.out
     have hcz14_0 : w6.cell? ⟨gb16001, 0, none⟩ = some (.int .i64 a0_0) := (blk_cell BK16001.out 0).trans rfl
     have hcz14_1 : w6.cell? ⟨gb16001, 1, none⟩ = some (.int .i64 a0_1) := (blk_cell BK16001.out 1).trans rfl
     have hcz14_2 : w6.cell? ⟨gb16001, 2, none⟩ = some (.slice A0_2 l0_2.length c0_2) := (blk_cell BK16001.out 2).trans rfl
     have hfz14_0 := blk_frozen BK16001.out 0
     have hfz14_1 := blk_frozen BK16001.out 1
     have hfz14_2 := blk_frozen BK16001.out 2
     go_wp2_with (first | ((with_reducible refine gate_callee (f := 67) rfl ?_); refine goesM (some 8) Tryd.func67 #[.agg #[.int .i64 a0_0, .int .i64 a0_1, .slice A0_2 l0_2.length c0_2]] ?_; (with_reducible refine (impl_Edit_isSmall.calls a0_0 a0_1 _ _ l0_2 true _ ?side1 ?side2 A7.out).mono ?_); (case side1 => exact cpl (Kd.C_below HR0_2.out HB.out)); (case side2 => exact HC0_2.out); rintro e w15 ⟨rfl, hb⟩; refine ⟨_, rfl, ?_⟩; replace BK16001 := Aside0.mk (bkb BK16001 hb); replace BK16002 := Aside0.mk (bkb BK16002 hb); replace BK16003 := Aside0.mk (bkb BK16003 hb); replace HB := Aside0.mk (below_step hbs hb); (try clear hb); (try clear hb2); (try clear hk); (try clear hi); have hnb16 := NB16002_16003.out; have hnc16 := NB16003_16002.out; have hcz17_0 : w15.cell? ⟨gb16002, 0, none⟩ = some (.int .i64 a1_0) := (blk_cell BK16002.out 0).trans rfl; have hcz17_1 : w15.cell? ⟨gb16002, 1, none⟩ = some (.int .i64 a1_1) := (blk_cell BK16002.out 1).trans rfl; have hcz17_2 : w15.cell? ⟨gb16002, 2, none⟩ = some (.slice A1_2 l1_2.length c1_2) := (blk_cell BK16002.out 2).trans rfl; have hfz17_0 := blk_frozen BK16002.out 0; have hfz17_1 := blk_frozen BK16002.out 1; have hfz17_2 := blk_frozen BK16002.out 2) | (go_at_call 67; (with_reducible refine (impl_Edit_isSmall.calls a1_0 a1_1 _ _ l1_2 true _ ?side1 ?side2 A9.out).mono ?_); (case side1 => exact cpl (Kd.C_below HR1_2.out HB.out)); (case side2 => exact HC1_2.out); rintro e w18 ⟨rfl, hb⟩; replace BK16001 := Aside0.mk (bkb BK16001 hb); replace BK16002 := Aside0.mk (bkb BK16002 hb); replace BK16003 := Aside0.mk (bkb BK16003 hb); replace HB := Aside0.mk (below_step hbs hb); (try clear hb); (try clear hb2); (try clear hk); (try clear hi); have hcz19_0 : w18.cell? ⟨gb16002, 0, none⟩ = some (.int .i64 a1_0) := (blk_cell BK16002.out 0).trans rfl; have hcz19_1 : w18.cell? ⟨gb16002, 1, none⟩ = some (.int .i64 a1_1) := (blk_cell BK16002.out 1).trans rfl; have hcz19_2 : w18.cell? ⟨gb16002, 2, none⟩ = some (.slice A1_2 l1_2.length c1_2) := (blk_cell BK16002.out 2).trans rfl; have hfz19_0 := blk_frozen BK16002.out 0; have hfz19_1 := blk_frozen BK16002.out 1; have hfz19_2 := blk_frozen BK16002.out 2; have hcz20_0 : w18.cell? ⟨gb16001, 0, none⟩ = some (.int .i64 a0_0) := (blk_cell BK16001.out 0).trans rfl; have hcz20_1 : w18.cell? ⟨gb16001, 1, none⟩ = some (.int .i64 a0_1) := (blk_cell BK16001.out 1).trans rfl; have hcz20_2 : w18.cell? ⟨gb16001, 2, none⟩ = some (.slice A0_2 l0_2.length c0_2) := (blk_cell BK16001.out 2).trans rfl; have hfz20_0 := blk_frozen BK16001.out 0; have hfz20_1 := blk_frozen BK16001.out 1; have hfz20_2 := blk_frozen BK16001.out 2))
     go_meet
     case rel => exact ⟨_, (true), rfs, H', ⟨by first | omega | exact Nat.le_refl _⟩, ⟨by refine pB ?_; exact BK16001.out⟩, ⟨by refine pB ?_; exact BK16002.out⟩, ⟨by refine pB ?_; exact BK16003.out⟩, ⟨hbs⟩⟩
    ·rw [if_neg c11] at H
     have c11b0 : decide (a1_0 < a0_0) = false := decide_eq_false c11
     clear c11
     (first | rw [c11b0] | (simp only [i64_w, i32_w]; rw [c11b0]) | skip)
     have H' := Aside0.mk H
     clear H
     have hnb21 := NB16001_16002.out
     have hnc21 := NB16002_16001.out
     have hnb22 := NB16001_16003.out
     have hnc22 := NB16003_16001.out
     have hcz23_0 : w6.cell? ⟨gb16001, 0, none⟩ = some (.int .i64 a0_0) := (blk_cell BK16001.out 0).trans rfl
     have hcz23_1 : w6.cell? ⟨gb16001, 1, none⟩ = some (.int .i64 a0_1) := (blk_cell BK16001.out 1).trans rfl
     have hcz23_2 : w6.cell? ⟨gb16001, 2, none⟩ = some (.slice A0_2 l0_2.length c0_2) := (blk_cell BK16001.out 2).trans rfl
     have hfz23_0 := blk_frozen BK16001.out 0
     have hfz23_1 := blk_frozen BK16001.out 1
     have hfz23_2 := blk_frozen BK16001.out 2
     go_wp2_with (first | ((with_reducible refine gate_callee (f := 67) rfl ?_); refine goesM (some 8) Tryd.func67 #[.agg #[.int .i64 a0_0, .int .i64 a0_1, .slice A0_2 l0_2.length c0_2]] ?_; (with_reducible refine (impl_Edit_isSmall.calls a0_0 a0_1 _ _ l0_2 true _ ?side1 ?side2 A7.out).mono ?_); (case side1 => exact cpl (Kd.C_below HR0_2.out HB.out)); (case side2 => exact HC0_2.out); rintro e w24 ⟨rfl, hb⟩; refine ⟨_, rfl, ?_⟩; replace BK16001 := Aside0.mk (bkb BK16001 hb); replace BK16002 := Aside0.mk (bkb BK16002 hb); replace BK16003 := Aside0.mk (bkb BK16003 hb); replace HB := Aside0.mk (below_step hbs hb); (try clear hb); (try clear hb2); (try clear hk); (try clear hi); have hnb25 := NB16002_16003.out; have hnc25 := NB16003_16002.out; have hcz26_0 : w24.cell? ⟨gb16002, 0, none⟩ = some (.int .i64 a1_0) := (blk_cell BK16002.out 0).trans rfl; have hcz26_1 : w24.cell? ⟨gb16002, 1, none⟩ = some (.int .i64 a1_1) := (blk_cell BK16002.out 1).trans rfl; have hcz26_2 : w24.cell? ⟨gb16002, 2, none⟩ = some (.slice A1_2 l1_2.length c1_2) := (blk_cell BK16002.out 2).trans rfl; have hfz26_0 := blk_frozen BK16002.out 0; have hfz26_1 := blk_frozen BK16002.out 1; have hfz26_2 := blk_frozen BK16002.out 2) | (go_at_call 67; (with_reducible refine (impl_Edit_isSmall.calls a1_0 a1_1 _ _ l1_2 true _ ?side1 ?side2 A9.out).mono ?_); (case side1 => exact cpl (Kd.C_below HR1_2.out HB.out)); (case side2 => exact HC1_2.out); rintro e w27 ⟨rfl, hb⟩; replace BK16001 := Aside0.mk (bkb BK16001 hb); replace BK16002 := Aside0.mk (bkb BK16002 hb); replace BK16003 := Aside0.mk (bkb BK16003 hb); replace HB := Aside0.mk (below_step hbs hb); (try clear hb); (try clear hb2); (try clear hk); (try clear hi); have hcz28_0 : w27.cell? ⟨gb16002, 0, none⟩ = some (.int .i64 a1_0) := (blk_cell BK16002.out 0).trans rfl; have hcz28_1 : w27.cell? ⟨gb16002, 1, none⟩ = some (.int .i64 a1_1) := (blk_cell BK16002.out 1).trans rfl; have hcz28_2 : w27.cell? ⟨gb16002, 2, none⟩ = some (.slice A1_2 l1_2.length c1_2) := (blk_cell BK16002.out 2).trans rfl; have hfz28_0 := blk_frozen BK16002.out 0; have hfz28_1 := blk_frozen BK16002.out 1; have hfz28_2 := blk_frozen BK16002.out 2; have hcz29_0 : w27.cell? ⟨gb16001, 0, none⟩ = some (.int .i64 a0_0) := (blk_cell BK16001.out 0).trans rfl; have hcz29_1 : w27.cell? ⟨gb16001, 1, none⟩ = some (.int .i64 a0_1) := (blk_cell BK16001.out 1).trans rfl; have hcz29_2 : w27.cell? ⟨gb16001, 2, none⟩ = some (.slice A0_2 l0_2.length c0_2) := (blk_cell BK16001.out 2).trans rfl; have hfz29_0 := blk_frozen BK16001.out 0; have hfz29_1 := blk_frozen BK16001.out 1; have hfz29_2 := blk_frozen BK16001.out 2))
     go_meet
     case rel => exact ⟨_, (decide ((wrap64 (a1_0 + a1_1)) > (wrap64 (a0_0 + (l0_2.length : Int))))), rfs, H', ⟨by first | omega | exact Nat.le_refl _⟩, ⟨by refine pB ?_; exact BK16001.out⟩, ⟨by refine pB ?_; exact BK16002.out⟩, ⟨by refine pB ?_; exact BK16003.out⟩, ⟨hbs⟩⟩
   ·replace c10 := Bool.eq_false_iff.mpr c10
    subst c10
    have H1 : (impl_EditJoin.j0 k true a0_0 a0_1 l0_2 a1_0 a1_1 l1_2) = some (r1, r2, r3, r4) := by rw [if_neg (show ¬ (false = true) by decide)] at H; exact H
    clear H
    have H := H1
    clear H1
    have H' := Aside0.mk H
    clear H
    have hnb30 := NB16001_16002.out
    have hnc30 := NB16002_16001.out
    have hnb31 := NB16001_16003.out
    have hnc31 := NB16003_16001.out
    have hcz32_0 : w6.cell? ⟨gb16001, 0, none⟩ = some (.int .i64 a0_0) := (blk_cell BK16001.out 0).trans rfl
    have hcz32_1 : w6.cell? ⟨gb16001, 1, none⟩ = some (.int .i64 a0_1) := (blk_cell BK16001.out 1).trans rfl
    have hcz32_2 : w6.cell? ⟨gb16001, 2, none⟩ = some (.slice A0_2 l0_2.length c0_2) := (blk_cell BK16001.out 2).trans rfl
    have hfz32_0 := blk_frozen BK16001.out 0
    have hfz32_1 := blk_frozen BK16001.out 1
    have hfz32_2 := blk_frozen BK16001.out 2
    go_wp2_with (first | ((with_reducible refine gate_callee (f := 67) rfl ?_); refine goesM (some 8) Tryd.func67 #[.agg #[.int .i64 a0_0, .int .i64 a0_1, .slice A0_2 l0_2.length c0_2]] ?_; (with_reducible refine (impl_Edit_isSmall.calls a0_0 a0_1 _ _ l0_2 true _ ?side1 ?side2 A7.out).mono ?_); (case side1 => exact cpl (Kd.C_below HR0_2.out HB.out)); (case side2 => exact HC0_2.out); rintro e w33 ⟨rfl, hb⟩; refine ⟨_, rfl, ?_⟩; replace BK16001 := Aside0.mk (bkb BK16001 hb); replace BK16002 := Aside0.mk (bkb BK16002 hb); replace BK16003 := Aside0.mk (bkb BK16003 hb); replace HB := Aside0.mk (below_step hbs hb); (try clear hb); (try clear hb2); (try clear hk); (try clear hi); have hnb34 := NB16002_16003.out; have hnc34 := NB16003_16002.out; have hcz35_0 : w33.cell? ⟨gb16002, 0, none⟩ = some (.int .i64 a1_0) := (blk_cell BK16002.out 0).trans rfl; have hcz35_1 : w33.cell? ⟨gb16002, 1, none⟩ = some (.int .i64 a1_1) := (blk_cell BK16002.out 1).trans rfl; have hcz35_2 : w33.cell? ⟨gb16002, 2, none⟩ = some (.slice A1_2 l1_2.length c1_2) := (blk_cell BK16002.out 2).trans rfl; have hfz35_0 := blk_frozen BK16002.out 0; have hfz35_1 := blk_frozen BK16002.out 1; have hfz35_2 := blk_frozen BK16002.out 2) | (go_at_call 67; (with_reducible refine (impl_Edit_isSmall.calls a1_0 a1_1 _ _ l1_2 false _ ?side1 ?side2 A9.out).mono ?_); (case side1 => exact cpl (Kd.C_below HR1_2.out HB.out)); (case side2 => exact HC1_2.out); rintro e w36 ⟨rfl, hb⟩; replace BK16001 := Aside0.mk (bkb BK16001 hb); replace BK16002 := Aside0.mk (bkb BK16002 hb); replace BK16003 := Aside0.mk (bkb BK16003 hb); replace HB := Aside0.mk (below_step hbs hb); (try clear hb); (try clear hb2); (try clear hk); (try clear hi)))
    go_meet
    case rel => exact ⟨_, (true), rfs, H', ⟨by first | omega | exact Nat.le_refl _⟩, ⟨by refine pB ?_; exact BK16001.out⟩, ⟨by refine pB ?_; exact BK16002.out⟩, ⟨by refine pB ?_; exact BK16003.out⟩, ⟨hbs⟩⟩
  ·replace c8 := Bool.eq_false_iff.mpr c8
   subst c8
   have H1 : (impl_EditJoin.j0 k true a0_0 a0_1 l0_2 a1_0 a1_1 l1_2) = some (r1, r2, r3, r4) := by rw [if_neg (show ¬ (false = true) by decide)] at H; exact H
   clear H
   have H := H1
   clear H1
   have H' := Aside0.mk H
   clear H
   have hnb37 := NB16001_16002.out
   have hnc37 := NB16002_16001.out
   have hnb38 := NB16001_16003.out
   have hnc38 := NB16003_16001.out
   have hcz39_0 : w6.cell? ⟨gb16001, 0, none⟩ = some (.int .i64 a0_0) := (blk_cell BK16001.out 0).trans rfl
   have hcz39_1 : w6.cell? ⟨gb16001, 1, none⟩ = some (.int .i64 a0_1) := (blk_cell BK16001.out 1).trans rfl
   have hcz39_2 : w6.cell? ⟨gb16001, 2, none⟩ = some (.slice A0_2 l0_2.length c0_2) := (blk_cell BK16001.out 2).trans rfl
   have hfz39_0 := blk_frozen BK16001.out 0
   have hfz39_1 := blk_frozen BK16001.out 1
   have hfz39_2 := blk_frozen BK16001.out 2
   go_wp2_with (first | ((with_reducible refine gate_callee (f := 67) rfl ?_); refine goesM (some 8) Tryd.func67 #[.agg #[.int .i64 a0_0, .int .i64 a0_1, .slice A0_2 l0_2.length c0_2]] ?_; (with_reducible refine (impl_Edit_isSmall.calls a0_0 a0_1 _ _ l0_2 false _ ?side1 ?side2 A7.out).mono ?_); (case side1 => exact cpl (Kd.C_below HR0_2.out HB.out)); (case side2 => exact HC0_2.out); rintro e w40 ⟨rfl, hb⟩; refine ⟨_, rfl, ?_⟩; replace BK16001 := Aside0.mk (bkb BK16001 hb); replace BK16002 := Aside0.mk (bkb BK16002 hb); replace BK16003 := Aside0.mk (bkb BK16003 hb); replace HB := Aside0.mk (below_step hbs hb); (try clear hb); (try clear hb2); (try clear hk); (try clear hi)))
   go_meet
   case rel => exact ⟨_, (true), rfs, H', ⟨by first | omega | exact Nat.le_refl _⟩, ⟨by refine pB ?_; exact BK16001.out⟩, ⟨by refine pB ?_; exact BK16002.out⟩, ⟨by refine pB ?_; exact BK16003.out⟩, ⟨hbs⟩⟩
 case rest =>
  clear HC3
  try clear c1
  try clear c2
  try clear p2
  try clear c3
  try clear c6
  try clear p6
  try clear c8
  try clear c10
  try clear c11
  try clear c11b0
  try clear c12
  try clear c13
  try clear c15
  try clear c16
  try clear c21
  try clear c22
  try clear c25
  try clear c30
  try clear c31
  try clear c34
  try clear c37
  try clear c38
  try clear hcz14_0
  try clear hcz14_1
  try clear hcz14_2
  try clear hcz17_0
  try clear hcz17_1
  try clear hcz17_2
  try clear hcz19_0
  try clear hcz19_1
  try clear hcz19_2
  try clear hcz20_0
  try clear hcz20_1
  try clear hcz20_2
  try clear hcz23_0
  try clear hcz23_1
  try clear hcz23_2
  try clear hcz26_0
  try clear hcz26_1
  try clear hcz26_2
  try clear hcz28_0
  try clear hcz28_1
  try clear hcz28_2
  try clear hcz29_0
  try clear hcz29_1
  try clear hcz29_2
  try clear hcz32_0
  try clear hcz32_1
  try clear hcz32_2
  try clear hcz35_0
  try clear hcz35_1
  try clear hcz35_2
  try clear hcz39_0
  try clear hcz39_1
  try clear hcz39_2
  try clear hfz14_0
  try clear hfz14_1
  try clear hfz14_2
  try clear hfz17_0
  try clear hfz17_1
  try clear hfz17_2
  try clear hfz19_0
  try clear hfz19_1
  try clear hfz19_2
  try clear hfz20_0
  try clear hfz20_1
  try clear hfz20_2
  try clear hfz23_0
  try clear hfz23_1
  try clear hfz23_2
  try clear hfz26_0
  try clear hfz26_1
  try clear hfz26_2
  try clear hfz28_0
  try clear hfz28_1
  try clear hfz28_2
  try clear hfz29_0
  try clear hfz29_1
  try clear hfz29_2
  try clear hfz32_0
  try clear hfz32_1
  try clear hfz32_2
  try clear hfz35_0
  try clear hfz35_1
  try clear hfz35_2
  try clear hfz39_0
  try clear hfz39_1
  try clear hfz39_2
  obtain ⟨kq, x35_2, rfl, HA, HJ2, BK16001, BK16002, BK16003, HB⟩ := hcut
  cases kq with
  | zero => exact absurd HA.out (by simp [impl_EditJoin.j0])
  | succ kj2 =>
   have H := HA.out
   clear HA
   simp only [impl_EditJoin.j0] at H
   by_cases c41 : x35_2 = true
   ·subst c41
    have H1 : (some (0, 0, ([] : List Int), false)) = some (r1, r2, r3, r4) := by rw [if_pos rfl] at H; exact H
    clear H
    have H := H1
    clear H1
    simp only [Option.some.injEq, Prod.mk.injEq] at H
    obtain ⟨rfl, rfl, rfl, rfl⟩ := H
    have hnb42 := NB16003_16001.out
    have hnc42 := NB16001_16003.out
    have hnb43 := NB16003_16002.out
    have hnc43 := NB16002_16003.out
    have hcz44_0 : wc.cell? ⟨gb16003, 0, none⟩ = some (.int .i64 0) := (blk_cell BK16003.out 0).trans rfl
    have hcz44_1 : wc.cell? ⟨gb16003, 1, none⟩ = some (.int .i64 0) := (blk_cell BK16003.out 1).trans rfl
    have hcz44_2 : wc.cell? ⟨gb16003, 2, none⟩ = some (.slice none 0 0) := (blk_cell BK16003.out 2).trans rfl
    have hfz44_0 := blk_frozen BK16003.out 0
    have hfz44_1 := blk_frozen BK16003.out 1
    have hfz44_2 := blk_frozen BK16003.out 2
    go_wp2
    refine bodyPost_ret (results_ct rfl _ _ gb16003 25 #[.int .i64 0, .int .i64 0, .slice none 0 0] (0, 0) _ rfl (by refine pB ?_; refine blk_put (cs := #[.int .i64 0, .int .i64 0, .slice none 0 0]) ?_ 2 _ rfl; refine pB ?_; refine blk_put (cs := #[.int .i64 0, .int .i64 0, .slice none 0 0]) ?_ 1 _ rfl; refine pB ?_; refine blk_put (cs := #[.int .i64 0, .int .i64 0, .slice none 0 0]) ?_ 0 _ rfl; refine pB ?_; exact BK16003.out) Tryd.underlying25 rfl (by kernel_rfl)) rfl ?_
    exact ⟨_, erf, by first | exact Kd.R_nil _ _ _ _ _ | exact Kd.N_nil _ _ _ _ _ | exact Kd.V_nil _ _ _ _ _ | exact Kd.Q_nil _ _ _ _ _ | exact Kd.S_nil _ _ _ _ _, hbs⟩
   ·replace c41 := Bool.eq_false_iff.mpr c41
    subst c41
    have H1 : ((impl_Edit_do.f kj2 (wrap64 (a1_0 - a0_0)) a1_1 l1_2 l0_2).bind fun t16006 => (if (t16006.length : Int) > 400 then (some (0, 0, ([] : List Int), false)) else (some (a0_0, a0_1, t16006, true)))) = some (r1, r2, r3, r4) := by rw [if_neg (show ¬ (false = true) by decide)] at H; exact H
    clear H
    have H := H1
    clear H1
    replace H := Option.bind_eq_some_iff.mp H
    obtain ⟨t16006, A450, H⟩ := H
    replace H : (if (t16006.length : Int) > 400 then (some (0, 0, ([] : List Int), false)) else (some (a0_0, a0_1, t16006, true))) = some (r1, r2, r3, r4) := H
    have A45 := Aside0.mk A450
    clear A450
    by_cases c46 : (t16006.length : Int) > 400
    ·rw [if_pos c46] at H
     have c46b0 : decide (400 < (t16006.length : Int)) = true := decide_eq_true c46
     have c46b1 : decide (400 < t16006.length) = true := decide_eq_true (by omega)
     clear c46
     simp only [Option.some.injEq, Prod.mk.injEq] at H
     obtain ⟨rfl, rfl, rfl, rfl⟩ := H
     have hnb47 := NB16002_16001.out
     have hnc47 := NB16001_16002.out
     have hnb48 := NB16002_16003.out
     have hnc48 := NB16003_16002.out
     have hcz49_0 : wc.cell? ⟨gb16002, 0, none⟩ = some (.int .i64 a1_0) := (blk_cell BK16002.out 0).trans rfl
     have hcz49_1 : wc.cell? ⟨gb16002, 1, none⟩ = some (.int .i64 a1_1) := (blk_cell BK16002.out 1).trans rfl
     have hcz49_2 : wc.cell? ⟨gb16002, 2, none⟩ = some (.slice A1_2 l1_2.length c1_2) := (blk_cell BK16002.out 2).trans rfl
     have hfz49_0 := blk_frozen BK16002.out 0
     have hfz49_1 := blk_frozen BK16002.out 1
     have hfz49_2 := blk_frozen BK16002.out 2
     have hnb50 := NB16001_16003.out
     have hnc50 := NB16003_16001.out
     have hcz51_0 : wc.cell? ⟨gb16001, 0, none⟩ = some (.int .i64 a0_0) := (blk_cell BK16001.out 0).trans rfl
     have hcz51_1 : wc.cell? ⟨gb16001, 1, none⟩ = some (.int .i64 a0_1) := (blk_cell BK16001.out 1).trans rfl
     have hcz51_2 : wc.cell? ⟨gb16001, 2, none⟩ = some (.slice A0_2 l0_2.length c0_2) := (blk_cell BK16001.out 2).trans rfl
     have hfz51_0 := blk_frozen BK16001.out 0
     have hfz51_1 := blk_frozen BK16001.out 1
     have hfz51_2 := blk_frozen BK16001.out 2
     go_wp2_with (first | ((with_reducible refine gate_store (t := 3) (p := 42) rfl ?_); refine store_event (t := 3) (p := 42) (v := ?vo_w52) (w1 := (wc.setCell ⟨gb16002, 0, none⟩ (.int .i64 (wrap64 (a1_0 - a0_0))))) ?hg ?ho ?hn ?hr ?_; (case ho => rfl); (case hg => rfl); (case hn => rfl); (case hr => first | (go_simp; done) | (go_simp; rfl)); intro w52 hw; replace BK16001 : Aside0 (w52.heap[gb16001]? = some (.cells #[.int .i64 a0_0, .int .i64 a0_1, .slice A0_2 l0_2.length c0_2] 25 (0, 0))) := ⟨(by rw [hw]; exact (by refine pB ?_; refine blk_far ?_ NB16001_16002.out _; refine pB ?_; exact BK16001.out))⟩; replace BK16002 : Aside0 (w52.heap[gb16002]? = some (.cells #[.int .i64 (wrap64 (a1_0 - a0_0)), .int .i64 a1_1, .slice A1_2 l1_2.length c1_2] 25 (0, 0))) := ⟨(by rw [hw]; exact (by refine pB ?_; refine blk_put (cs := #[.int .i64 a1_0, .int .i64 a1_1, .slice A1_2 l1_2.length c1_2]) ?_ 0 _ rfl; refine pB ?_; exact BK16002.out))⟩; replace BK16003 : Aside0 (w52.heap[gb16003]? = some (.cells #[.int .i64 0, .int .i64 0, .slice none 0 0] 25 (0, 0))) := ⟨(by rw [hw]; exact (by refine pB ?_; refine blk_far ?_ NB16003_16002.out _; refine pB ?_; exact BK16003.out))⟩; replace HB : Aside0 (Below w.heap.size w w52) := ⟨(by rw [hw]; exact hbs)⟩; clear hw; have hcz53_0 : w52.cell? ⟨gb16002, 0, none⟩ = some (.int .i64 (wrap64 (a1_0 - a0_0))) := (blk_cell BK16002.out 0).trans rfl; have hcz53_1 : w52.cell? ⟨gb16002, 1, none⟩ = some (.int .i64 a1_1) := (blk_cell BK16002.out 1).trans rfl; have hcz53_2 : w52.cell? ⟨gb16002, 2, none⟩ = some (.slice A1_2 l1_2.length c1_2) := (blk_cell BK16002.out 2).trans rfl; have hfz53_0 := blk_frozen BK16002.out 0; have hfz53_1 := blk_frozen BK16002.out 1; have hfz53_2 := blk_frozen BK16002.out 2; have hcz54_0 : w52.cell? ⟨gb16001, 0, none⟩ = some (.int .i64 a0_0) := (blk_cell BK16001.out 0).trans rfl; have hcz54_1 : w52.cell? ⟨gb16001, 1, none⟩ = some (.int .i64 a0_1) := (blk_cell BK16001.out 1).trans rfl; have hcz54_2 : w52.cell? ⟨gb16001, 2, none⟩ = some (.slice A0_2 l0_2.length c0_2) := (blk_cell BK16001.out 2).trans rfl; have hfz54_0 := blk_frozen BK16001.out 0; have hfz54_1 := blk_frozen BK16001.out 1; have hfz54_2 := blk_frozen BK16001.out 2) | ((with_reducible refine gate_callee (f := 68) rfl ?_); refine goesM (some 46) Tryd.func68 #[.agg #[.int .i64 (wrap64 (a1_0 - a0_0)), .int .i64 a1_1, .slice A1_2 l1_2.length c1_2], .slice A0_2 l0_2.length c0_2] ?_; (with_reducible refine (impl_Edit_do.calls kj2 (wrap64 (a1_0 - a0_0)) a1_1 (fun k_ => k_ < w.heap.size) _ _ l1_2 (fun k_ => k_ < w.heap.size) _ _ l0_2 t16006 _ ?side1 ?side2 A45.out).mono ?_); (case side1 => exact Kd.V_mk HC1_2.out (Kd.F_below (Kd.C_F (Kd.heap_int .u8) HR1_2.out) hbs)); (case side2 => exact Kd.V_mk HC0_2.out (Kd.F_below (Kd.C_F (Kd.heap_int .u8) HR0_2.out) hbs)); rintro e w55 ⟨v16007, rfl, ho0, hb⟩; refine ⟨_, rfl, ?_⟩; have HO16008 := Aside0.mk (Kd.R_lower (Kd.R_mono (ok' := fun k_ => True) ho0 (fun _ hk_ => trivial)) (below_size hbs)); replace BK16001 := Aside0.mk (bkb BK16001 hb); replace BK16002 := Aside0.mk (bkb BK16002 hb); replace BK16003 := Aside0.mk (bkb BK16003 hb); replace HB := Aside0.mk (below_step hbs hb); (try clear hb); (try clear hb2); (try clear hk); (try clear hi); (try clear ho0); obtain ⟨Ao56, co56, eo56⟩ := Kd.R_slice HO16008.out; subst eo56; have hcz57_0 : w55.cell? ⟨gb16003, 0, none⟩ = some (.int .i64 0) := (blk_cell BK16003.out 0).trans rfl; have hcz57_1 : w55.cell? ⟨gb16003, 1, none⟩ = some (.int .i64 0) := (blk_cell BK16003.out 1).trans rfl; have hcz57_2 : w55.cell? ⟨gb16003, 2, none⟩ = some (.slice none 0 0) := (blk_cell BK16003.out 2).trans rfl; have hfz57_0 := blk_frozen BK16003.out 0; have hfz57_1 := blk_frozen BK16003.out 1; have hfz57_2 := blk_frozen BK16003.out 2))
     refine bodyPost_ret (results_ct rfl _ _ gb16003 25 #[.int .i64 0, .int .i64 0, .slice none 0 0] (0, 0) _ rfl (by refine pB ?_; refine blk_put (cs := #[.int .i64 0, .int .i64 0, .slice none 0 0]) ?_ 2 _ rfl; refine pB ?_; refine blk_put (cs := #[.int .i64 0, .int .i64 0, .slice none 0 0]) ?_ 1 _ rfl; refine pB ?_; refine blk_put (cs := #[.int .i64 0, .int .i64 0, .slice none 0 0]) ?_ 0 _ rfl; refine pB ?_; exact BK16003.out) Tryd.underlying25 rfl (by kernel_rfl)) rfl ?_
     exact ⟨_, erf, by first | exact Kd.R_nil _ _ _ _ _ | exact Kd.N_nil _ _ _ _ _ | exact Kd.V_nil _ _ _ _ _ | exact Kd.Q_nil _ _ _ _ _ | exact Kd.S_nil _ _ _ _ _, hbs⟩
    ·rw [if_neg c46] at H
     have c46b0 : decide (400 < (t16006.length : Int)) = false := decide_eq_false c46
     have c46b1 : decide (400 < t16006.length) = false := decide_eq_false (by omega)
     clear c46
     simp only [Option.some.injEq, Prod.mk.injEq] at H
     obtain ⟨rfl, rfl, rfl, rfl⟩ := H
     have hnb58 := NB16002_16001.out
     have hnc58 := NB16001_16002.out
     have hnb59 := NB16002_16003.out
     have hnc59 := NB16003_16002.out
     have hcz60_0 : wc.cell? ⟨gb16002, 0, none⟩ = some (.int .i64 a1_0) := (blk_cell BK16002.out 0).trans rfl
     have hcz60_1 : wc.cell? ⟨gb16002, 1, none⟩ = some (.int .i64 a1_1) := (blk_cell BK16002.out 1).trans rfl
     have hcz60_2 : wc.cell? ⟨gb16002, 2, none⟩ = some (.slice A1_2 l1_2.length c1_2) := (blk_cell BK16002.out 2).trans rfl
     have hfz60_0 := blk_frozen BK16002.out 0
     have hfz60_1 := blk_frozen BK16002.out 1
     have hfz60_2 := blk_frozen BK16002.out 2
     have hnb61 := NB16001_16003.out
     have hnc61 := NB16003_16001.out
     have hcz62_0 : wc.cell? ⟨gb16001, 0, none⟩ = some (.int .i64 a0_0) := (blk_cell BK16001.out 0).trans rfl
     have hcz62_1 : wc.cell? ⟨gb16001, 1, none⟩ = some (.int .i64 a0_1) := (blk_cell BK16001.out 1).trans rfl
     have hcz62_2 : wc.cell? ⟨gb16001, 2, none⟩ = some (.slice A0_2 l0_2.length c0_2) := (blk_cell BK16001.out 2).trans rfl
     have hfz62_0 := blk_frozen BK16001.out 0
     have hfz62_1 := blk_frozen BK16001.out 1
     have hfz62_2 := blk_frozen BK16001.out 2
     go_wp2_with (first | ((with_reducible refine gate_store (t := 3) (p := 42) rfl ?_); refine store_event (t := 3) (p := 42) (v := ?vo_w63) (w1 := (wc.setCell ⟨gb16002, 0, none⟩ (.int .i64 (wrap64 (a1_0 - a0_0))))) ?hg ?ho ?hn ?hr ?_; (case ho => rfl); (case hg => rfl); (case hn => rfl); (case hr => first | (go_simp; done) | (go_simp; rfl)); intro w63 hw; replace BK16001 : Aside0 (w63.heap[gb16001]? = some (.cells #[.int .i64 a0_0, .int .i64 a0_1, .slice A0_2 l0_2.length c0_2] 25 (0, 0))) := ⟨(by rw [hw]; exact (by refine pB ?_; refine blk_far ?_ NB16001_16002.out _; refine pB ?_; exact BK16001.out))⟩; replace BK16002 : Aside0 (w63.heap[gb16002]? = some (.cells #[.int .i64 (wrap64 (a1_0 - a0_0)), .int .i64 a1_1, .slice A1_2 l1_2.length c1_2] 25 (0, 0))) := ⟨(by rw [hw]; exact (by refine pB ?_; refine blk_put (cs := #[.int .i64 a1_0, .int .i64 a1_1, .slice A1_2 l1_2.length c1_2]) ?_ 0 _ rfl; refine pB ?_; exact BK16002.out))⟩; replace BK16003 : Aside0 (w63.heap[gb16003]? = some (.cells #[.int .i64 0, .int .i64 0, .slice none 0 0] 25 (0, 0))) := ⟨(by rw [hw]; exact (by refine pB ?_; refine blk_far ?_ NB16003_16002.out _; refine pB ?_; exact BK16003.out))⟩; replace HB : Aside0 (Below w.heap.size w w63) := ⟨(by rw [hw]; exact hbs)⟩; clear hw; have hcz64_0 : w63.cell? ⟨gb16002, 0, none⟩ = some (.int .i64 (wrap64 (a1_0 - a0_0))) := (blk_cell BK16002.out 0).trans rfl; have hcz64_1 : w63.cell? ⟨gb16002, 1, none⟩ = some (.int .i64 a1_1) := (blk_cell BK16002.out 1).trans rfl; have hcz64_2 : w63.cell? ⟨gb16002, 2, none⟩ = some (.slice A1_2 l1_2.length c1_2) := (blk_cell BK16002.out 2).trans rfl; have hfz64_0 := blk_frozen BK16002.out 0; have hfz64_1 := blk_frozen BK16002.out 1; have hfz64_2 := blk_frozen BK16002.out 2; have hcz65_0 : w63.cell? ⟨gb16001, 0, none⟩ = some (.int .i64 a0_0) := (blk_cell BK16001.out 0).trans rfl; have hcz65_1 : w63.cell? ⟨gb16001, 1, none⟩ = some (.int .i64 a0_1) := (blk_cell BK16001.out 1).trans rfl; have hcz65_2 : w63.cell? ⟨gb16001, 2, none⟩ = some (.slice A0_2 l0_2.length c0_2) := (blk_cell BK16001.out 2).trans rfl; have hfz65_0 := blk_frozen BK16001.out 0; have hfz65_1 := blk_frozen BK16001.out 1; have hfz65_2 := blk_frozen BK16001.out 2) | ((with_reducible refine gate_callee (f := 68) rfl ?_); refine goesM (some 46) Tryd.func68 #[.agg #[.int .i64 (wrap64 (a1_0 - a0_0)), .int .i64 a1_1, .slice A1_2 l1_2.length c1_2], .slice A0_2 l0_2.length c0_2] ?_; (with_reducible refine (impl_Edit_do.calls kj2 (wrap64 (a1_0 - a0_0)) a1_1 (fun k_ => k_ < w.heap.size) _ _ l1_2 (fun k_ => k_ < w.heap.size) _ _ l0_2 t16006 _ ?side1 ?side2 A45.out).mono ?_); (case side1 => exact Kd.V_mk HC1_2.out (Kd.F_below (Kd.C_F (Kd.heap_int .u8) HR1_2.out) hbs)); (case side2 => exact Kd.V_mk HC0_2.out (Kd.F_below (Kd.C_F (Kd.heap_int .u8) HR0_2.out) hbs)); rintro e w66 ⟨v16007, rfl, ho0, hb⟩; refine ⟨_, rfl, ?_⟩; have HO16008 := Aside0.mk (Kd.R_lower (Kd.R_mono (ok' := fun k_ => True) ho0 (fun _ hk_ => trivial)) (below_size hbs)); replace BK16001 := Aside0.mk (bkb BK16001 hb); replace BK16002 := Aside0.mk (bkb BK16002 hb); replace BK16003 := Aside0.mk (bkb BK16003 hb); replace HB := Aside0.mk (below_step hbs hb); (try clear hb); (try clear hb2); (try clear hk); (try clear hi); (try clear ho0); obtain ⟨Ao67, co67, eo67⟩ := Kd.R_slice HO16008.out; subst eo67; have hcz68_0 : w66.cell? ⟨gb16001, 0, none⟩ = some (.int .i64 a0_0) := (blk_cell BK16001.out 0).trans rfl; have hcz68_1 : w66.cell? ⟨gb16001, 1, none⟩ = some (.int .i64 a0_1) := (blk_cell BK16001.out 1).trans rfl; have hcz68_2 : w66.cell? ⟨gb16001, 2, none⟩ = some (.slice A0_2 l0_2.length c0_2) := (blk_cell BK16001.out 2).trans rfl; have hfz68_0 := blk_frozen BK16001.out 0; have hfz68_1 := blk_frozen BK16001.out 1; have hfz68_2 := blk_frozen BK16001.out 2; have hcz69_0 : w66.cell? ⟨gb16003, 0, none⟩ = some (.int .i64 0) := (blk_cell BK16003.out 0).trans rfl; have hcz69_1 : w66.cell? ⟨gb16003, 1, none⟩ = some (.int .i64 0) := (blk_cell BK16003.out 1).trans rfl; have hcz69_2 : w66.cell? ⟨gb16003, 2, none⟩ = some (.slice none 0 0) := (blk_cell BK16003.out 2).trans rfl; have hfz69_0 := blk_frozen BK16003.out 0; have hfz69_1 := blk_frozen BK16003.out 1; have hfz69_2 := blk_frozen BK16003.out 2))
     refine bodyPost_ret (results_ct rfl _ _ gb16003 25 #[.int .i64 a0_0, .int .i64 a0_1, .slice Ao67 t16006.length co67] (0, 0) _ rfl (by refine pB ?_; refine blk_put (cs := #[.int .i64 a0_0, .int .i64 a0_1, .slice none 0 0]) ?_ 2 _ rfl; refine pB ?_; refine blk_put (cs := #[.int .i64 a0_0, .int .i64 0, .slice none 0 0]) ?_ 1 _ rfl; refine pB ?_; refine blk_put (cs := #[.int .i64 0, .int .i64 0, .slice none 0 0]) ?_ 0 _ rfl; refine pB ?_; exact BK16003.out) Tryd.underlying25 rfl (by kernel_rfl)) rfl ?_
     exact ⟨_, erf, by (with_reducible repeat (first | apply Kd.R_alloc | apply Kd.R_drewN | apply Kd.R_drew)); exact Kd.R_mono (Kd.R_far (p := ⟨gb16003, 2, none⟩) (Kd.R_far (p := ⟨gb16003, 1, none⟩) (Kd.R_far (p := ⟨gb16003, 0, none⟩) (Kd.R_types HO16008.out BK16003.out (by decide)) (fun _ hk => hk.2) (.int .i64 a0_0)) (fun _ hk => hk.2) (.int .i64 a0_1)) (fun _ hk => hk.2) (.slice Ao67 t16006.length co67)) (fun _ hk => trivial), hbs⟩
def laws_sameEdit.j0 : Nat → Bool → Option (Bool)
 | 0, _ => none
 | k + 1, x4 => some x4
def laws_sameEdit.f (k : Nat) (a0_0 : Int) (a0_1 : Int) (l0_2 : List Int) (a1_0 : Int) (a1_1 : Int) (l1_2 : List Int) : Option (Bool) := if a0_0 = a1_0 then (if a0_1 = a1_1 then (laws_sameEdit.j0 k ((strOfNums l0_2).toList == (strOfNums l1_2).toList)) else (laws_sameEdit.j0 k false)) else (laws_sameEdit.j0 k false)
theorem laws_sameEdit.mono_l : ∀ k, (∀ y0, LeO (laws_sameEdit.j0 k y0) (laws_sameEdit.j0 (k + 1) y0))
 | 0 => fun _ r h => by simp [laws_sameEdit.j0] at h
 | k + 1 => by
  have ih0 := laws_sameEdit.mono_l k
  ·intro y0
   unfold laws_sameEdit.j0
   repeat' first
   | (with_reducible exact ih0 _)
   | (with_reducible exact LeO.refl _)
   | (with_reducible exact LeO.none _)
   | (with_reducible refine LeO.ite ?_ ?_)
   | (with_reducible refine LeO.bind ?_ (fun _ => ?_))
   | exact ih0 _
   | exact LeO.none _
   | refine LeO.ite ?_ ?_
   | refine LeO.bind ?_ (fun _ => ?_)
theorem laws_sameEdit.mono : ∀ a0 a1 a2 a3 a4 a5 k, LeO (laws_sameEdit.f k a0 a1 a2 a3 a4 a5) (laws_sameEdit.f (k + 1) a0 a1 a2 a3 a4 a5) := by
 intro a0 a1 a2 a3 a4 a5 k
 have ih0 := laws_sameEdit.mono_l k
 unfold laws_sameEdit.f
 repeat' first
   | (with_reducible exact ih0 _)
   | (with_reducible exact LeO.refl _)
   | (with_reducible exact LeO.none _)
   | (with_reducible refine LeO.ite ?_ ?_)
   | (with_reducible refine LeO.bind ?_ (fun _ => ?_))
   | exact ih0 _
   | exact LeO.none _
   | refine LeO.ite ?_ ?_
   | refine LeO.bind ?_ (fun _ => ?_)
set_option maxHeartbeats 8000000 in
set_option maxRecDepth 100000 in
theorem laws_sameEdit.calls (k : Nat) (a0_0 : Int) (a0_1 : Int) (A0_2 : Option Addr) (c0_2 : Nat) (l0_2 : List Int) (a1_0 : Int) (a1_1 : Int) (A1_2 : Option Addr) (c1_2 : Nat) (l1_2 : List Int) (r : Bool) (w : World) (hr0_2 : Kd.C (Kd.int .u8) w A0_2 l0_2.length l0_2) (hc0_2 : l0_2.length ≤ c0_2) (hr1_2 : Kd.C (Kd.int .u8) w A1_2 l1_2.length l1_2) (hc1_2 : l1_2.length ≤ c1_2) (h : laws_sameEdit.f k a0_0 a0_1 l0_2 a1_0 a1_1 l1_2 = some r) :
  Calls Tryd.prog 16 #[.agg #[.int .i64 a0_0, .int .i64 a0_1, .slice A0_2 l0_2.length c0_2], .agg #[.int .i64 a1_0, .int .i64 a1_1, .slice A1_2 l1_2.length c1_2]] w fun e w' => e = .returned (.bool r) ∧ Below w.heap.size w w' := by
 have hu25 := Tryd.underlying25
 have HR0_2 := Aside0.mk hr0_2
 have HC0_2 := Aside0.mk hc0_2
 clear hr0_2 hc0_2
 have HR1_2 := Aside0.mk hr1_2
 have HC1_2 := Aside0.mk hc1_2
 clear hr1_2 hc1_2
 have HB := Aside0.mk (Below.refl w.heap.size w)
 have H : (if a0_0 = a1_0 then (if a0_1 = a1_1 then (laws_sameEdit.j0 k ((strOfNums l0_2).toList == (strOfNums l1_2).toList)) else (laws_sameEdit.j0 k false)) else (laws_sameEdit.j0 k false)) = some r := h
 clear h
 have HC3 := Aside0.mk H
 clear H
 go_enter Tryd.func16, Tryd.ntmps16
 go_upto_region 1 with (first | ((with_reducible refine gate_dst (N := 2) rfl ?_); refine boxE 2 #[.int .i64 a0_0, .int .i64 a0_1, .slice A0_2 l0_2.length c0_2] 25 ?_; intro gb17001 hg w4 BK17001 hb; have GW17001 := Aside0.mk (gsz hg hbw : w.heap.size ≤ gb17001); have GE17001 := GW17001; replace HB := Aside0.mk (below_step hbw hb); clear hb hg) | ((with_reducible refine gate_dst (N := 3) rfl ?_); refine boxE 3 #[.int .i64 a1_0, .int .i64 a1_1, .slice A1_2 l1_2.length c1_2] 25 ?_; intro gb17002 hg w5 BK17002 hb; have GW17002 := Aside0.mk (gsz hg hbs : w.heap.size ≤ gb17002); have GE17002 := GW17002; have NB17001_17002 := Aside0.mk (nbl BK17001 hg); have NB17002_17001 := Aside0.mk (nbg BK17001 hg); replace BK17001 := Aside0.mk (bkb BK17001 hb); replace HB := Aside0.mk (below_step hbs hb); clear hb hg))
 (try simp only [Act.put, List.setIfInBounds_toArray, List.set_cons_zero, List.set_cons_succ])
 go_cut [4] (fun v4 wc => ∃ (kq : Nat) (x4_2 : Bool), v4 = .bool x4_2 ∧ Aside0 (laws_sameEdit.j0 kq x4_2 = some r) ∧ Aside0 (kq ≤ k) ∧ Aside0 (wc.heap[gb17001]? = some (.cells #[.int .i64 a0_0, .int .i64 a0_1, (.slice A0_2 l0_2.length c0_2)] 25 (0, 0))) ∧ Aside0 (wc.heap[gb17002]? = some (.cells #[.int .i64 a1_0, .int .i64 a1_1, (.slice A1_2 l1_2.length c1_2)] 25 (0, 0))) ∧ Aside0 (Below w.heap.size w wc))
 case first =>
  have H := HC3.out
  clear HC3
  by_cases c6 : a0_0 = a1_0
  ·rw [if_pos c6] at H
   have c6b0 : (a0_0 == a1_0) = true := beq_iff_eq.mpr c6
   have c6b1 : (a0_0 != a1_0) = false := bne_eq_false_iff_eq.mpr c6
   clear c6
   (first | rw [c6b0] | (simp only [i64_w, i32_w]; rw [c6b0]) | skip)
   by_cases c7 : a0_1 = a1_1
   ·rw [if_pos c7] at H
    have c7b0 : (a0_1 == a1_1) = true := beq_iff_eq.mpr c7
    have c7b1 : (a0_1 != a1_1) = false := bne_eq_false_iff_eq.mpr c7
    clear c7
    have H' := Aside0.mk H
    clear H
    have hnb8 := NB17001_17002.out
    have hnc8 := NB17002_17001.out
    have hcz9_0 : w5.cell? ⟨gb17001, 0, none⟩ = some (.int .i64 a0_0) := (blk_cell BK17001.out 0).trans rfl
    have hcz9_1 : w5.cell? ⟨gb17001, 1, none⟩ = some (.int .i64 a0_1) := (blk_cell BK17001.out 1).trans rfl
    have hcz9_2 : w5.cell? ⟨gb17001, 2, none⟩ = some (.slice A0_2 l0_2.length c0_2) := (blk_cell BK17001.out 2).trans rfl
    have hfz9_0 := blk_frozen BK17001.out 0
    have hfz9_1 := blk_frozen BK17001.out 1
    have hfz9_2 := blk_frozen BK17001.out 2
    have hcz10_0 : w5.cell? ⟨gb17002, 0, none⟩ = some (.int .i64 a1_0) := (blk_cell BK17002.out 0).trans rfl
    have hcz10_1 : w5.cell? ⟨gb17002, 1, none⟩ = some (.int .i64 a1_1) := (blk_cell BK17002.out 1).trans rfl
    have hcz10_2 : w5.cell? ⟨gb17002, 2, none⟩ = some (.slice A1_2 l1_2.length c1_2) := (blk_cell BK17002.out 2).trans rfl
    have hfz10_0 := blk_frozen BK17002.out 0
    have hfz10_1 := blk_frozen BK17002.out 1
    have hfz10_2 := blk_frozen BK17002.out 2
    have hcv11 := Kd.C_string (P := Tryd.prog) (A := A0_2) (c := c0_2) Tryd.underlying22 Tryd.underlying5 Tryd.underlying9 (Kd.C_below HR0_2.out HB.out)
    have hcv12 := Kd.C_string (P := Tryd.prog) (A := A1_2) (c := c1_2) Tryd.underlying22 Tryd.underlying5 Tryd.underlying9 (Kd.C_below HR1_2.out HB.out)
    go_wp2
    go_meet
    case rel => exact ⟨_, (((strOfNums l0_2).toList == (strOfNums l1_2).toList)), rfs, H', ⟨by first | omega | exact Nat.le_refl _⟩, ⟨by refine pB ?_; exact BK17001.out⟩, ⟨by refine pB ?_; exact BK17002.out⟩, ⟨hbs⟩⟩
   ·rw [if_neg c7] at H
    have c7b0 : (a0_1 == a1_1) = false := beq_eq_false_iff_ne.mpr c7
    have c7b1 : (a0_1 != a1_1) = true := bne_iff_ne.mpr c7
    have H' := Aside0.mk H
    clear H
    have hnb13 := NB17001_17002.out
    have hnc13 := NB17002_17001.out
    have hcz14_0 : w5.cell? ⟨gb17001, 0, none⟩ = some (.int .i64 a0_0) := (blk_cell BK17001.out 0).trans rfl
    have hcz14_1 : w5.cell? ⟨gb17001, 1, none⟩ = some (.int .i64 a0_1) := (blk_cell BK17001.out 1).trans rfl
    have hcz14_2 : w5.cell? ⟨gb17001, 2, none⟩ = some (.slice A0_2 l0_2.length c0_2) := (blk_cell BK17001.out 2).trans rfl
    have hfz14_0 := blk_frozen BK17001.out 0
    have hfz14_1 := blk_frozen BK17001.out 1
    have hfz14_2 := blk_frozen BK17001.out 2
    have hcz15_0 : w5.cell? ⟨gb17002, 0, none⟩ = some (.int .i64 a1_0) := (blk_cell BK17002.out 0).trans rfl
    have hcz15_1 : w5.cell? ⟨gb17002, 1, none⟩ = some (.int .i64 a1_1) := (blk_cell BK17002.out 1).trans rfl
    have hcz15_2 : w5.cell? ⟨gb17002, 2, none⟩ = some (.slice A1_2 l1_2.length c1_2) := (blk_cell BK17002.out 2).trans rfl
    have hfz15_0 := blk_frozen BK17002.out 0
    have hfz15_1 := blk_frozen BK17002.out 1
    have hfz15_2 := blk_frozen BK17002.out 2
    go_wp2
    go_meet
    case rel => exact ⟨_, (false), rfs, H', ⟨by first | omega | exact Nat.le_refl _⟩, ⟨by refine pB ?_; exact BK17001.out⟩, ⟨by refine pB ?_; exact BK17002.out⟩, ⟨hbs⟩⟩
  ·rw [if_neg c6] at H
   have c6b0 : (a0_0 == a1_0) = false := beq_eq_false_iff_ne.mpr c6
   have c6b1 : (a0_0 != a1_0) = true := bne_iff_ne.mpr c6
   (first | rw [c6b0] | (simp only [i64_w, i32_w]; rw [c6b0]) | skip)
   have H' := Aside0.mk H
   clear H
   have hnb16 := NB17001_17002.out
   have hnc16 := NB17002_17001.out
   have hcz17_0 : w5.cell? ⟨gb17001, 0, none⟩ = some (.int .i64 a0_0) := (blk_cell BK17001.out 0).trans rfl
   have hcz17_1 : w5.cell? ⟨gb17001, 1, none⟩ = some (.int .i64 a0_1) := (blk_cell BK17001.out 1).trans rfl
   have hcz17_2 : w5.cell? ⟨gb17001, 2, none⟩ = some (.slice A0_2 l0_2.length c0_2) := (blk_cell BK17001.out 2).trans rfl
   have hfz17_0 := blk_frozen BK17001.out 0
   have hfz17_1 := blk_frozen BK17001.out 1
   have hfz17_2 := blk_frozen BK17001.out 2
   have hcz18_0 : w5.cell? ⟨gb17002, 0, none⟩ = some (.int .i64 a1_0) := (blk_cell BK17002.out 0).trans rfl
   have hcz18_1 : w5.cell? ⟨gb17002, 1, none⟩ = some (.int .i64 a1_1) := (blk_cell BK17002.out 1).trans rfl
   have hcz18_2 : w5.cell? ⟨gb17002, 2, none⟩ = some (.slice A1_2 l1_2.length c1_2) := (blk_cell BK17002.out 2).trans rfl
   have hfz18_0 := blk_frozen BK17002.out 0
   have hfz18_1 := blk_frozen BK17002.out 1
   have hfz18_2 := blk_frozen BK17002.out 2
   go_wp2
   go_meet
   case rel => exact ⟨_, (false), rfs, H', ⟨by first | omega | exact Nat.le_refl _⟩, ⟨by refine pB ?_; exact BK17001.out⟩, ⟨by refine pB ?_; exact BK17002.out⟩, ⟨hbs⟩⟩
 case rest =>
  clear HC3
  try clear c1
  try clear hcv1
  try clear p2
  try clear c6
  try clear c6b0
  try clear c6b1
  try clear c7
  try clear c7b0
  try clear c7b1
  try clear c8
  try clear hcv11
  try clear hcv12
  try clear c13
  try clear c16
  try clear hcz10_0
  try clear hcz10_1
  try clear hcz10_2
  try clear hcz14_0
  try clear hcz14_1
  try clear hcz14_2
  try clear hcz15_0
  try clear hcz15_1
  try clear hcz15_2
  try clear hcz17_0
  try clear hcz17_1
  try clear hcz17_2
  try clear hcz18_0
  try clear hcz18_1
  try clear hcz18_2
  try clear hcz9_0
  try clear hcz9_1
  try clear hcz9_2
  try clear hfz10_0
  try clear hfz10_1
  try clear hfz10_2
  try clear hfz14_0
  try clear hfz14_1
  try clear hfz14_2
  try clear hfz15_0
  try clear hfz15_1
  try clear hfz15_2
  try clear hfz17_0
  try clear hfz17_1
  try clear hfz17_2
  try clear hfz18_0
  try clear hfz18_1
  try clear hfz18_2
  try clear hfz9_0
  try clear hfz9_1
  try clear hfz9_2
  obtain ⟨kq, x4_2, rfl, HA, HJ2, BK17001, BK17002, HB⟩ := hcut
  cases kq with
  | zero => exact absurd HA.out (by simp [laws_sameEdit.j0])
  | succ kj2 =>
   have H := HA.out
   clear HA
   simp only [laws_sameEdit.j0] at H
   obtain rfl := Option.some.inj H
   go_wp2
   go_ret
   exact ⟨erf, hbs⟩
mutual
def laws_pick.j0 : Nat → List Int → Int → Int → Bool → Option (Int)
 | 0, _, _, _, _ => none
 | k + 1, x0, x1, x2, x15 => if x15 = true then (some 0) else (laws_pick.l0 k x0 x1 x2 0 0)
def laws_pick.l0 : Nat → List Int → Int → Int → Int → Int → Option (Int)
 | 0, _, _, _, _, _ => none
 | k + 1, x0, x1, x2, x7, x8 => if x8 < 3 then (if (x0.length : Int) = 0 then (none) else (if 0 ≤ (Int.tmod (wrap64 (x1 + x8)) (x0.length : Int)) then (if (Int.tmod (wrap64 (x1 + x8)) (x0.length : Int)) < (x0.length : Int) then (laws_pick.l0 k x0 x1 x2 (wrap64 ((wrap64 (31 * x7)) + (wrap64 (rd x0 (Int.tmod (wrap64 (x1 + x8)) (x0.length : Int)))))) (wrap64 (x8 + 1))) else (none)) else (none))) else (if x2 = 0 then (none) else (some (Int.tmod (wrap64 (x7 + x1)) x2)))
end
def laws_pick.f (k : Nat) (l0 : List Int) (a1 : Int) (a2 : Int) : Option (Int) := if (l0.length : Int) = 0 then (laws_pick.j0 k l0 a1 a2 true) else (laws_pick.j0 k l0 a1 a2 (decide (a2 < 2)))
theorem laws_pick.mono_l : ∀ k, (∀ y0 y1 y2 y3, LeO (laws_pick.j0 k y0 y1 y2 y3) (laws_pick.j0 (k + 1) y0 y1 y2 y3)) ∧ (∀ y0 y1 y2 y3 y4, LeO (laws_pick.l0 k y0 y1 y2 y3 y4) (laws_pick.l0 (k + 1) y0 y1 y2 y3 y4))
 | 0 => ⟨fun _ _ _ _ r h => by simp [laws_pick.j0] at h, fun _ _ _ _ _ r h => by simp [laws_pick.l0] at h⟩
 | k + 1 => by
  obtain ⟨ih0, ih1⟩ := laws_pick.mono_l k
  refine ⟨?_, ?_⟩
  ·intro y0 y1 y2 y3
   unfold laws_pick.j0
   repeat' first
   | (with_reducible exact ih0 _ _ _ _)
   | (with_reducible exact ih1 _ _ _ _ _)
   | (with_reducible exact LeO.refl _)
   | (with_reducible exact LeO.none _)
   | (with_reducible refine LeO.ite ?_ ?_)
   | (with_reducible refine LeO.bind ?_ (fun _ => ?_))
   | exact ih0 _ _ _ _
   | exact ih1 _ _ _ _ _
   | exact LeO.none _
   | refine LeO.ite ?_ ?_
   | refine LeO.bind ?_ (fun _ => ?_)
  ·intro y0 y1 y2 y3 y4
   unfold laws_pick.l0
   repeat' first
   | (with_reducible exact ih0 _ _ _ _)
   | (with_reducible exact ih1 _ _ _ _ _)
   | (with_reducible exact LeO.refl _)
   | (with_reducible exact LeO.none _)
   | (with_reducible refine LeO.ite ?_ ?_)
   | (with_reducible refine LeO.bind ?_ (fun _ => ?_))
   | exact ih0 _ _ _ _
   | exact ih1 _ _ _ _ _
   | exact LeO.none _
   | refine LeO.ite ?_ ?_
   | refine LeO.bind ?_ (fun _ => ?_)
theorem laws_pick.mono : ∀ a0 a1 a2 k, LeO (laws_pick.f k a0 a1 a2) (laws_pick.f (k + 1) a0 a1 a2) := by
 intro a0 a1 a2 k
 obtain ⟨ih0, ih1⟩ := laws_pick.mono_l k
 unfold laws_pick.f
 repeat' first
   | (with_reducible exact ih0 _ _ _ _)
   | (with_reducible exact ih1 _ _ _ _ _)
   | (with_reducible exact LeO.refl _)
   | (with_reducible exact LeO.none _)
   | (with_reducible refine LeO.ite ?_ ?_)
   | (with_reducible refine LeO.bind ?_ (fun _ => ?_))
   | exact ih0 _ _ _ _
   | exact ih1 _ _ _ _ _
   | exact LeO.none _
   | refine LeO.ite ?_ ?_
   | refine LeO.bind ?_ (fun _ => ?_)
set_option maxHeartbeats 8000000 in
set_option maxRecDepth 100000 in
theorem laws_pick.calls (k : Nat) (A0 : Option Addr) (c0 : Nat) (l0 : List Int) (a1 : Int) (a2 : Int) (r : Int) (w : World) (hr0 : Kd.C (Kd.int .u8) w A0 l0.length l0) (hc0 : l0.length ≤ c0) (h : laws_pick.f k l0 a1 a2 = some r) :
  Calls Tryd.prog 17 #[.slice A0 l0.length c0, .int .i64 a1, .int .i64 a2] w fun e w' => e = .returned (.int .i64 r) ∧ Drawn0 w w' := by
 have HR0 := Aside0.mk hr0
 have HC0 := Aside0.mk hc0
 clear hr0 hc0
 have H : (if (l0.length : Int) = 0 then (laws_pick.j0 k l0 a1 a2 true) else (laws_pick.j0 k l0 a1 a2 (decide (a2 < 2)))) = some r := h
 clear h
 have HC4 := Aside0.mk H
 clear H
 go_enter Tryd.func17, Tryd.ntmps17
 go_upto_region 1 with (fail)
 go_cut [15] (fun v15 wc => ∃ (kq : Nat) (x15_3 : Bool), v15 = .bool x15_3 ∧ Aside0 (laws_pick.j0 kq l0 a1 a2 x15_3 = some r) ∧ Aside0 (kq ≤ k) ∧ Drawn0 w wc)
 case first =>
  have H := HC4.out
  clear HC4
  by_cases c5 : (l0.length : Int) = 0
  ·rw [if_pos c5] at H
   have c5b0 : ((l0.length : Int) == 0) = true := beq_iff_eq.mpr c5
   have c5b1 : ((l0.length : Int) != 0) = false := bne_eq_false_iff_eq.mpr c5
   clear c5
   (first | rw [c5b0] | (simp only [i64_w, i32_w]; rw [c5b0]) | skip)
   have H' := Aside0.mk H
   clear H
   go_wp2
   go_meet
   case rel => exact ⟨_, (true), rfs, H', ⟨by first | omega | exact Nat.le_refl _⟩, by repeat (first | exact Drawn0.refl _ | apply Drawn0.step)⟩
  ·rw [if_neg c5] at H
   have c5b0 : ((l0.length : Int) == 0) = false := beq_eq_false_iff_ne.mpr c5
   have c5b1 : ((l0.length : Int) != 0) = true := bne_iff_ne.mpr c5
   have c5b2 : ¬ (l0 = []) := fun h_ => c5 (by rw [h_]; rfl)
   (first | rw [c5b0] | (simp only [i64_w, i32_w]; rw [c5b0]) | skip)
   have H' := Aside0.mk H
   clear H
   go_wp2
   go_meet
   case rel => exact ⟨_, (decide (a2 < 2)), rfs, H', ⟨by first | omega | exact Nat.le_refl _⟩, by repeat (first | exact Drawn0.refl _ | apply Drawn0.step)⟩
 case rest =>
  clear HC4
  try clear c1
  try clear p2
  try clear c5
  try clear c5b0
  try clear c5b1
  try clear c5b2
  obtain ⟨kq, x15_3, rfl, HA, HJ3, ⟨mc3, rfl⟩⟩ := hcut
  cases kq with
  | zero => exact absurd HA.out (by simp [laws_pick.j0])
  | succ kj3 =>
   have H := HA.out
   clear HA
   simp only [laws_pick.j0] at H
   by_cases c6 : x15_3 = true
   ·subst c6
    have H1 : (some 0) = some r := by rw [if_pos rfl] at H; exact H
    clear H
    have H := H1
    clear H1
    obtain rfl := Option.some.inj H
    go_wp2
    go_ret
    exact ⟨by first | rfl | (simp; done) | (simp [*]; done), by repeat (first | exact Drawn0.refl _ | apply Drawn0.step)⟩
   ·replace c6 := Bool.eq_false_iff.mpr c6
    subst c6
    have H1 : (laws_pick.l0 kj3 l0 a1 a2 0 0) = some r := by rw [if_neg (show ¬ (false = true) by decide)] at H; exact H
    clear H
    have H := H1
    clear H1
    have H' := Aside0.mk H
    clear H
    go_wp2
    go_loopg [7, 8] kj3 (fun kq v7 v8 w' => ∃ (x7_2 : Int) (x8_2 : Int), v7 = .int .i64 x7_2 ∧ v8 = .int .i64 x8_2 ∧ Aside0 (laws_pick.l0 kq l0 a1 a2 x7_2 x8_2 = some r) ∧ Aside0 (kq ≤ kj3) ∧ Drawn0 w w')
    case atStart => exact ⟨(0), (0), rfs, rfs, H', ⟨Nat.le_refl _⟩, by repeat (first | exact Drawn0.refl _ | apply Drawn0.step)⟩
    case round =>
     clear H'
     try clear c1
     try clear p2
     try clear c3
     try clear c5
     try clear c5b0
     try clear c5b1
     try clear c5b2
     try clear c6
     try clear p2
     obtain ⟨x7_2, x8_2, rfl, rfl, HA, HK2, ⟨m2, rfl⟩⟩ := hrel
     cases gk with
     | zero => exact absurd HA.out (by simp [laws_pick.l0])
     | succ k2 =>
      have H := HA.out
      clear HA
      simp only [laws_pick.l0] at H
      by_cases c7 : x8_2 < 3
      ·rw [if_pos c7] at H
       have c7b0 : decide (x8_2 < 3) = true := decide_eq_true c7
       clear c7
       by_cases c8 : (l0.length : Int) = 0
       ·rw [if_pos c8] at H
        exact absurd H (by simp)
       ·rw [if_neg c8] at H
        have c8b0 : ((l0.length : Int) == 0) = false := beq_eq_false_iff_ne.mpr c8
        have c8b1 : ((l0.length : Int) != 0) = true := bne_iff_ne.mpr c8
        have c8b2 : ¬ (l0 = []) := fun h_ => c8 (by rw [h_]; rfl)
        obtain ⟨ji9, hji9⟩ : ∃ j_ : Int, (Int.tmod (wrap64 (a1 + x8_2)) (l0.length : Int)) = j_ := ⟨_, rfl⟩
        replace H : (if 0 ≤ (ji9) then (if (ji9) < (l0.length : Int) then (laws_pick.l0 k2 l0 a1 a2 (wrap64 ((wrap64 (31 * x7_2)) + (wrap64 (rd l0 (ji9))))) (wrap64 (x8_2 + 1))) else (none)) else (none)) = some r := by first | (rw [hji9] at H; exact H) | (simp only [hji9] at H ⊢; exact H)
        by_cases c10 : 0 ≤ (ji9)
        ·rw [if_pos c10] at H
         have c10b0 : decide (0 ≤ (ji9)) = true := decide_eq_true c10
         clear c10
         by_cases c11 : (ji9) < (l0.length : Int)
         ·rw [if_pos c11] at H
          have c11b0 : decide ((ji9) < (l0.length : Int)) = true := decide_eq_true c11
          clear c11
          have H' := Aside0.mk H
          clear H
          have p18001 : 0 ≤ ((ji9) : Int) := odt
          have q18001 : (ji9) < (l0.length : Int) := odt
          obtain ⟨ad18001, e18001, hx18001_0⟩ := Kd.at_int HR0.out (ji9) p18001 q18001
          cases e18001
          replace p18001 := eq_true p18001
          replace q18001 := eq_true q18001
          go_wp2
          go_roundg k2
          case measure => have := HJ3.out; have := HK2.out; omega
          case rel => exact ⟨(wrap64 ((wrap64 (31 * x7_2)) + (wrap64 (rd l0 (ji9))))), (wrap64 (x8_2 + 1)), (by first | rfl | (simp; done) | (simp only [← hji9] <;> (first | rfl | simp)) | (simp [*]; done)), rfs, H', ⟨by have := HJ3.out; have := HK2.out; omega⟩, by repeat (first | exact Drawn0.refl _ | apply Drawn0.step)⟩
         ·rw [if_neg c11] at H
          exact absurd H (by simp)
        ·rw [if_neg c10] at H
         exact absurd H (by simp)
      ·rw [if_neg c7] at H
       have c7b0 : decide (x8_2 < 3) = false := decide_eq_false c7
       clear c7
       by_cases c12 : a2 = 0
       ·rw [if_pos c12] at H
        exact absurd H (by simp)
       ·rw [if_neg c12] at H
        have c12b0 : (a2 == 0) = false := beq_eq_false_iff_ne.mpr c12
        have c12b1 : (a2 != 0) = true := bne_iff_ne.mpr c12
        obtain rfl := Option.some.inj H
        go_wp2
        go_ret
        exact ⟨by first | rfl | (simp; done) | (simp [*]; done), by repeat (first | exact Drawn0.refl _ | apply Drawn0.step)⟩
def spec_RunesTo.l0 : Nat → Int → List Int → Int → Option (Int)
 | 0, _, _, _ => none
 | k + 1, x1, x5, x6 => if x6 < (x5.length : Int) then (if 0 ≤ x6 then (if (rd x5 x6) = x1 then (some x6) else (spec_RunesTo.l0 k x1 x5 (wrap64 (x6 + 1)))) else (none)) else (some (-1))
def spec_RunesTo.f (k : Nat) (l0 : List Int) (a1 : Int) : Option (Int) := (spec_l01Cuts.f k l0).bind fun t127001 => (spec_RunesTo.l0 k a1 t127001 0)
theorem spec_RunesTo.mono_l : ∀ k, (∀ y0 y1 y2, LeO (spec_RunesTo.l0 k y0 y1 y2) (spec_RunesTo.l0 (k + 1) y0 y1 y2))
 | 0 => fun _ _ _ r h => by simp [spec_RunesTo.l0] at h
 | k + 1 => by
  have ih0 := spec_RunesTo.mono_l k
  ·intro y0 y1 y2
   unfold spec_RunesTo.l0
   repeat' first
   | (with_reducible exact ih0 _ _ _)
   | (with_reducible exact spec_l01Cuts.mono _ _)
   | (with_reducible exact LeO.refl _)
   | (with_reducible exact LeO.none _)
   | (with_reducible refine LeO.ite ?_ ?_)
   | (with_reducible refine LeO.bind ?_ (fun _ => ?_))
   | exact ih0 _ _ _
   | exact spec_l01Cuts.mono _ _
   | exact LeO.none _
   | refine LeO.ite ?_ ?_
   | refine LeO.bind ?_ (fun _ => ?_)
theorem spec_RunesTo.mono : ∀ a0 a1 k, LeO (spec_RunesTo.f k a0 a1) (spec_RunesTo.f (k + 1) a0 a1) := by
 intro a0 a1 k
 have ih0 := spec_RunesTo.mono_l k
 unfold spec_RunesTo.f
 repeat' first
   | (with_reducible exact ih0 _ _ _)
   | (with_reducible exact spec_l01Cuts.mono _ _)
   | (with_reducible exact LeO.refl _)
   | (with_reducible exact LeO.none _)
   | (with_reducible refine LeO.ite ?_ ?_)
   | (with_reducible refine LeO.bind ?_ (fun _ => ?_))
   | exact ih0 _ _ _
   | exact spec_l01Cuts.mono _ _
   | exact LeO.none _
   | refine LeO.ite ?_ ?_
   | refine LeO.bind ?_ (fun _ => ?_)
set_option maxHeartbeats 8000000 in
set_option maxRecDepth 100000 in
theorem spec_RunesTo.calls (k : Nat) (A0 : Option Addr) (c0 : Nat) (l0 : List Int) (a1 : Int) (r : Int) (w : World) (hr0 : Kd.C (Kd.int .u8) w A0 l0.length l0) (hc0 : l0.length ≤ c0) (h : spec_RunesTo.f k l0 a1 = some r) :
  Calls Tryd.prog 126 #[.slice A0 l0.length c0, .int .i64 a1] w fun e w' => e = .returned (.int .i64 r) ∧ Below w.heap.size w w' := by
 have HR0 := Aside0.mk hr0
 have HC0 := Aside0.mk hc0
 clear hr0 hc0
 have HB := Aside0.mk (Below.refl w.heap.size w)
 have H : ((spec_l01Cuts.f k l0).bind fun t127001 => (spec_RunesTo.l0 k a1 t127001 0)) = some r := h
 clear h
 replace H := Option.bind_eq_some_iff.mp H
 obtain ⟨t127001, A30, H⟩ := H
 replace H : (spec_RunesTo.l0 k a1 t127001 0) = some r := H
 have A3 := Aside0.mk A30
 clear A30
 have H' := Aside0.mk H
 clear H
 go_enter Tryd.func126, Tryd.ntmps126
 go_wp2_with (first | ((with_reducible refine gate_callee (f := 73) rfl ?_); refine goesM (some 8) Tryd.func73 #[.slice A0 l0.length c0] ?_; (with_reducible refine (spec_l01Cuts.calls k _ _ l0 t127001 _ ?side1 ?side2 A3.out).mono ?_); (case side1 => exact cpl HR0.out); (case side2 => exact HC0.out); rintro e w4 ⟨v127002, rfl, ho0, hb⟩; refine ⟨_, rfl, ?_⟩; have HO127003 := Aside0.mk (Kd.R_lower ho0 (below_size hbw)); replace HB := Aside0.mk (below_step hbw hb); (try clear hb); (try clear hb2); (try clear hk); (try clear hi); (try clear ho0)))
 go_loopg [6] k (fun kq v6 w' => ∃ (x6_1 : Int), v6 = .int .i64 x6_1 ∧ Aside0 (spec_RunesTo.l0 kq a1 t127001 x6_1 = some r) ∧ Aside0 (kq ≤ k) ∧ Aside0 (Kd.R (Kd.int .i64) 3 w' w.heap.size (fun _ => True) v127002 t127001) ∧ Aside0 (Below w.heap.size w w'))
 case atStart => exact ⟨(0), rfs, H', ⟨Nat.le_refl _⟩, ⟨(hrnR HO127003)⟩, ⟨hbw⟩⟩
 case round =>
  clear H'
  try clear c1
  try clear p2
  obtain ⟨x6_1, rfl, HA, HK1, HO_5, HB⟩ := hrel
  cases gk with
  | zero => exact absurd HA.out (by simp [spec_RunesTo.l0])
  | succ k1 =>
   have H := HA.out
   clear HA
   simp only [spec_RunesTo.l0] at H
   by_cases c5 : x6_1 < (t127001.length : Int)
   ·rw [if_pos c5] at H
    have c5b0 : decide (x6_1 < (t127001.length : Int)) = true := decide_eq_true c5
    clear c5
    by_cases c6 : 0 ≤ x6_1
    ·rw [if_pos c6] at H
     have c6b0 : decide (0 ≤ x6_1) = true := decide_eq_true c6
     clear c6
     by_cases c7 : (rd t127001 x6_1) = a1
     ·rw [if_pos c7] at H
      have c7b0 : ((rd t127001 x6_1) == a1) = true := beq_iff_eq.mpr c7
      have c7b1 : ((rd t127001 x6_1) != a1) = false := bne_eq_false_iff_eq.mpr c7
      clear c7
      obtain rfl := Option.some.inj H
      obtain ⟨Ao8, co8, eo8⟩ := Kd.R_slice HO_5.out
      subst eo8
      have p127004 : 0 ≤ (x6_1 : Int) := odt
      have q127004 : x6_1 < (t127001.length : Int) := odt
      obtain ⟨ad127004, e127004, hx127004_0⟩ := Kd.at_int (Kd.R_reads' HO_5.out).2.2 x6_1 p127004 q127004
      cases e127004
      replace p127004 := eq_true p127004
      replace q127004 := eq_true q127004
      go_wp2
      go_ret
      exact ⟨erf, hbw⟩
     ·rw [if_neg c7] at H
      have c7b0 : ((rd t127001 x6_1) == a1) = false := beq_eq_false_iff_ne.mpr c7
      have c7b1 : ((rd t127001 x6_1) != a1) = true := bne_iff_ne.mpr c7
      have H' := Aside0.mk H
      clear H
      obtain ⟨Ao9, co9, eo9⟩ := Kd.R_slice HO_5.out
      subst eo9
      have p127004 : 0 ≤ (x6_1 : Int) := odt
      have q127004 : x6_1 < (t127001.length : Int) := odt
      obtain ⟨ad127004, e127004, hx127004_0⟩ := Kd.at_int (Kd.R_reads' HO_5.out).2.2 x6_1 p127004 q127004
      cases e127004
      replace p127004 := eq_true p127004
      replace q127004 := eq_true q127004
      go_wp2
      go_roundg k1
      case measure => have := HK1.out; omega
      case rel => exact ⟨(wrap64 (x6_1 + 1)), rfs, H', ⟨by have := HK1.out; omega⟩, ⟨(hrnR HO_5)⟩, ⟨hbw⟩⟩
    ·rw [if_neg c6] at H
     exact absurd H (by simp)
   ·rw [if_neg c5] at H
    have c5b0 : decide (x6_1 < (t127001.length : Int)) = false := decide_eq_false c5
    clear c5
    obtain rfl := Option.some.inj H
    obtain ⟨Ao10, co10, eo10⟩ := Kd.R_slice HO_5.out
    subst eo10
    go_wp2
    go_ret
    exact ⟨erf, hbw⟩
def spec_CutOk.f (k : Nat) (l0 : List Int) (a1 : Int) : Option (Bool) := (spec_RunesTo.f k l0 a1).bind fun t76001 => (some (decide (t76001 ≥ 0)))
theorem spec_CutOk.mono : ∀ a0 a1 k, LeO (spec_CutOk.f k a0 a1) (spec_CutOk.f (k + 1) a0 a1) := by
 intro a0 a1 k
 unfold spec_CutOk.f
 repeat' first
   | (with_reducible exact spec_RunesTo.mono _ _ _)
   | (with_reducible exact LeO.refl _)
   | (with_reducible exact LeO.none _)
   | (with_reducible refine LeO.ite ?_ ?_)
   | (with_reducible refine LeO.bind ?_ (fun _ => ?_))
   | exact spec_RunesTo.mono _ _ _
   | exact LeO.none _
   | refine LeO.ite ?_ ?_
   | refine LeO.bind ?_ (fun _ => ?_)
set_option maxHeartbeats 8000000 in
set_option maxRecDepth 100000 in
theorem spec_CutOk.calls (k : Nat) (A0 : Option Addr) (c0 : Nat) (l0 : List Int) (a1 : Int) (r : Bool) (w : World) (hr0 : Kd.C (Kd.int .u8) w A0 l0.length l0) (hc0 : l0.length ≤ c0) (h : spec_CutOk.f k l0 a1 = some r) :
  Calls Tryd.prog 75 #[.slice A0 l0.length c0, .int .i64 a1] w fun e w' => e = .returned (.bool r) ∧ Below w.heap.size w w' := by
 have HR0 := Aside0.mk hr0
 have HC0 := Aside0.mk hc0
 clear hr0 hc0
 have HB := Aside0.mk (Below.refl w.heap.size w)
 have H : ((spec_RunesTo.f k l0 a1).bind fun t76001 => (some (decide (t76001 ≥ 0)))) = some r := h
 clear h
 replace H := Option.bind_eq_some_iff.mp H
 obtain ⟨t76001, A30, H⟩ := H
 replace H : (some (decide (t76001 ≥ 0))) = some r := H
 have A3 := Aside0.mk A30
 clear A30
 obtain rfl := Option.some.inj H
 go_enter Tryd.func75, Tryd.ntmps75
 go_wp2_with (first | ((with_reducible refine gate_callee (f := 126) rfl ?_); refine goesM (some 7) Tryd.func126 #[.slice A0 l0.length c0, .int .i64 a1] ?_; (with_reducible refine (spec_RunesTo.calls k _ _ l0 a1 t76001 _ ?side1 ?side2 A3.out).mono ?_); (case side1 => exact cpl HR0.out); (case side2 => exact HC0.out); rintro e w4 ⟨rfl, hb⟩; refine ⟨_, rfl, ?_⟩; replace HB := Aside0.mk (below_step hbw hb); (try clear hb); (try clear hb2); (try clear hk); (try clear hi)))
 go_ret
 exact ⟨erf, hbw⟩
def spec_EditOk.j0 : Nat → List Int → Bool → Int → Int → List Int → Option (Bool)
 | 0, _, _, _, _, _ => none
 | k + 1, x0, x45, x23002000, x23002001, x23002002 => if x45 = true then (some false) else (some (decide ((wrap64 ((wrap64 ((x0.length : Int) - x23002001)) + (x23002002.length : Int))) ≤ 400)))
def spec_EditOk.f (k : Nat) (l0 : List Int) (a1_0 : Int) (a1_1 : Int) (l1_2 : List Int) : Option (Bool) := (spec_TextOk.f k l0).bind fun t23002 => (if t23002 = true then ((spec_CutOk.f k l0 a1_0).bind fun t23003 => (if t23003 = true then (if a1_1 < 0 then (spec_EditOk.j0 k l0 true a1_0 a1_1 l1_2) else (if a1_1 > (wrap64 ((l0.length : Int) - a1_0)) then (spec_EditOk.j0 k l0 true a1_0 a1_1 l1_2) else ((spec_CutOk.f k l0 (wrap64 (a1_0 + a1_1))).bind fun t23004 => (if t23004 = true then ((spec_TextOk.f k l1_2).bind fun t23005 => (spec_EditOk.j0 k l0 (!t23005) a1_0 a1_1 l1_2)) else (spec_EditOk.j0 k l0 true a1_0 a1_1 l1_2))))) else (spec_EditOk.j0 k l0 true a1_0 a1_1 l1_2))) else (spec_EditOk.j0 k l0 true a1_0 a1_1 l1_2))
theorem spec_EditOk.mono_l : ∀ k, (∀ y0 y1 y2 y3 y4, LeO (spec_EditOk.j0 k y0 y1 y2 y3 y4) (spec_EditOk.j0 (k + 1) y0 y1 y2 y3 y4))
 | 0 => fun _ _ _ _ _ r h => by simp [spec_EditOk.j0] at h
 | k + 1 => by
  have ih0 := spec_EditOk.mono_l k
  ·intro y0 y1 y2 y3 y4
   unfold spec_EditOk.j0
   repeat' first
   | (with_reducible exact ih0 _ _ _ _ _)
   | (with_reducible exact spec_CutOk.mono _ _ _)
   | (with_reducible exact spec_TextOk.mono _ _)
   | (with_reducible exact LeO.refl _)
   | (with_reducible exact LeO.none _)
   | (with_reducible refine LeO.ite ?_ ?_)
   | (with_reducible refine LeO.bind ?_ (fun _ => ?_))
   | exact ih0 _ _ _ _ _
   | exact spec_CutOk.mono _ _ _
   | exact spec_TextOk.mono _ _
   | exact LeO.none _
   | refine LeO.ite ?_ ?_
   | refine LeO.bind ?_ (fun _ => ?_)
theorem spec_EditOk.mono : ∀ a0 a1 a2 a3 k, LeO (spec_EditOk.f k a0 a1 a2 a3) (spec_EditOk.f (k + 1) a0 a1 a2 a3) := by
 intro a0 a1 a2 a3 k
 have ih0 := spec_EditOk.mono_l k
 unfold spec_EditOk.f
 repeat' first
   | (with_reducible exact ih0 _ _ _ _ _)
   | (with_reducible exact spec_CutOk.mono _ _ _)
   | (with_reducible exact spec_TextOk.mono _ _)
   | (with_reducible exact LeO.refl _)
   | (with_reducible exact LeO.none _)
   | (with_reducible refine LeO.ite ?_ ?_)
   | (with_reducible refine LeO.bind ?_ (fun _ => ?_))
   | exact ih0 _ _ _ _ _
   | exact spec_CutOk.mono _ _ _
   | exact spec_TextOk.mono _ _
   | exact LeO.none _
   | refine LeO.ite ?_ ?_
   | refine LeO.bind ?_ (fun _ => ?_)
set_option maxHeartbeats 8000000 in
set_option maxRecDepth 100000 in
theorem spec_EditOk.calls (k : Nat) (A0 : Option Addr) (c0 : Nat) (l0 : List Int) (a1_0 : Int) (a1_1 : Int) (A1_2 : Option Addr) (c1_2 : Nat) (l1_2 : List Int) (r : Bool) (w : World) (hr0 : Kd.C (Kd.int .u8) w A0 l0.length l0) (hc0 : l0.length ≤ c0) (hr1_2 : Kd.C (Kd.int .u8) w A1_2 l1_2.length l1_2) (hc1_2 : l1_2.length ≤ c1_2) (h : spec_EditOk.f k l0 a1_0 a1_1 l1_2 = some r) :
  Calls Tryd.prog 22 #[.slice A0 l0.length c0, .agg #[.int .i64 a1_0, .int .i64 a1_1, .slice A1_2 l1_2.length c1_2]] w fun e w' => e = .returned (.bool r) ∧ Below w.heap.size w w' := by
 have hu25 := Tryd.underlying25
 have HR0 := Aside0.mk hr0
 have HC0 := Aside0.mk hc0
 clear hr0 hc0
 have HR1_2 := Aside0.mk hr1_2
 have HC1_2 := Aside0.mk hc1_2
 clear hr1_2 hc1_2
 have HB := Aside0.mk (Below.refl w.heap.size w)
 have H : ((spec_TextOk.f k l0).bind fun t23002 => (if t23002 = true then ((spec_CutOk.f k l0 a1_0).bind fun t23003 => (if t23003 = true then (if a1_1 < 0 then (spec_EditOk.j0 k l0 true a1_0 a1_1 l1_2) else (if a1_1 > (wrap64 ((l0.length : Int) - a1_0)) then (spec_EditOk.j0 k l0 true a1_0 a1_1 l1_2) else ((spec_CutOk.f k l0 (wrap64 (a1_0 + a1_1))).bind fun t23004 => (if t23004 = true then ((spec_TextOk.f k l1_2).bind fun t23005 => (spec_EditOk.j0 k l0 (!t23005) a1_0 a1_1 l1_2)) else (spec_EditOk.j0 k l0 true a1_0 a1_1 l1_2))))) else (spec_EditOk.j0 k l0 true a1_0 a1_1 l1_2))) else (spec_EditOk.j0 k l0 true a1_0 a1_1 l1_2))) = some r := h
 clear h
 have HC3 := Aside0.mk H
 clear H
 go_enter Tryd.func22, Tryd.ntmps22
 go_upto_region 1 with (first | ((with_reducible refine gate_dst (N := 3) rfl ?_); (try (refine gate_guard (by rfl) ?_; dsimp only)); refine boxE 3 #[.int .i64 a1_0, .int .i64 a1_1, .slice A1_2 l1_2.length c1_2] 25 ?_; intro gb23001 hg w4 BK23001 hb; have GW23001 := Aside0.mk (gsz hg hbw : w.heap.size ≤ gb23001); have GE23001 := GW23001; replace HB := Aside0.mk (below_step hbw hb); clear hb hg))
 (try simp only [Act.put, List.setIfInBounds_toArray, List.set_cons_zero, List.set_cons_succ])
 go_cut [45] (fun v45 wc => ∃ (kq : Nat) (x45_2 : Bool), v45 = .bool x45_2 ∧ Aside0 (spec_EditOk.j0 kq l0 x45_2 a1_0 a1_1 l1_2 = some r) ∧ Aside0 (kq ≤ k) ∧ Aside0 (wc.heap[gb23001]? = some (.cells #[.int .i64 a1_0, .int .i64 a1_1, (.slice A1_2 l1_2.length c1_2)] 25 (0, 0))) ∧ Aside0 (Below w.heap.size w wc))
 case first =>
  have H := HC3.out
  clear HC3
  replace H := Option.bind_eq_some_iff.mp H
  obtain ⟨t23002, A50, H⟩ := H
  replace H : (if t23002 = true then ((spec_CutOk.f k l0 a1_0).bind fun t23003 => (if t23003 = true then (if a1_1 < 0 then (spec_EditOk.j0 k l0 true a1_0 a1_1 l1_2) else (if a1_1 > (wrap64 ((l0.length : Int) - a1_0)) then (spec_EditOk.j0 k l0 true a1_0 a1_1 l1_2) else ((spec_CutOk.f k l0 (wrap64 (a1_0 + a1_1))).bind fun t23004 => (if t23004 = true then ((spec_TextOk.f k l1_2).bind fun t23005 => (spec_EditOk.j0 k l0 (!t23005) a1_0 a1_1 l1_2)) else (spec_EditOk.j0 k l0 true a1_0 a1_1 l1_2))))) else (spec_EditOk.j0 k l0 true a1_0 a1_1 l1_2))) else (spec_EditOk.j0 k l0 true a1_0 a1_1 l1_2)) = some r := H
  have A5 := Aside0.mk A50
  clear A50
  by_cases c6 : t23002 = true
  ·subst c6
   have H1 : ((spec_CutOk.f k l0 a1_0).bind fun t23003 => (if t23003 = true then (if a1_1 < 0 then (spec_EditOk.j0 k l0 true a1_0 a1_1 l1_2) else (if a1_1 > (wrap64 ((l0.length : Int) - a1_0)) then (spec_EditOk.j0 k l0 true a1_0 a1_1 l1_2) else ((spec_CutOk.f k l0 (wrap64 (a1_0 + a1_1))).bind fun t23004 => (if t23004 = true then ((spec_TextOk.f k l1_2).bind fun t23005 => (spec_EditOk.j0 k l0 (!t23005) a1_0 a1_1 l1_2)) else (spec_EditOk.j0 k l0 true a1_0 a1_1 l1_2))))) else (spec_EditOk.j0 k l0 true a1_0 a1_1 l1_2))) = some r := by rw [if_pos rfl] at H; exact H
   clear H
   have H := H1
   clear H1
   replace H := Option.bind_eq_some_iff.mp H
   obtain ⟨t23003, A70, H⟩ := H
   replace H : (if t23003 = true then (if a1_1 < 0 then (spec_EditOk.j0 k l0 true a1_0 a1_1 l1_2) else (if a1_1 > (wrap64 ((l0.length : Int) - a1_0)) then (spec_EditOk.j0 k l0 true a1_0 a1_1 l1_2) else ((spec_CutOk.f k l0 (wrap64 (a1_0 + a1_1))).bind fun t23004 => (if t23004 = true then ((spec_TextOk.f k l1_2).bind fun t23005 => (spec_EditOk.j0 k l0 (!t23005) a1_0 a1_1 l1_2)) else (spec_EditOk.j0 k l0 true a1_0 a1_1 l1_2))))) else (spec_EditOk.j0 k l0 true a1_0 a1_1 l1_2)) = some r := H
   have A7 := Aside0.mk A70
   clear A70
   by_cases c8 : t23003 = true
   ·subst c8
    have H1 : (if a1_1 < 0 then (spec_EditOk.j0 k l0 true a1_0 a1_1 l1_2) else (if a1_1 > (wrap64 ((l0.length : Int) - a1_0)) then (spec_EditOk.j0 k l0 true a1_0 a1_1 l1_2) else ((spec_CutOk.f k l0 (wrap64 (a1_0 + a1_1))).bind fun t23004 => (if t23004 = true then ((spec_TextOk.f k l1_2).bind fun t23005 => (spec_EditOk.j0 k l0 (!t23005) a1_0 a1_1 l1_2)) else (spec_EditOk.j0 k l0 true a1_0 a1_1 l1_2))))) = some r := by rw [if_pos rfl] at H; exact H
    clear H
    have H := H1
    clear H1
    by_cases c9 : a1_1 < 0
    ·rw [if_pos c9] at H
     have c9b0 : decide (a1_1 < 0) = true := decide_eq_true c9
     clear c9
     (first | rw [c9b0] | (simp only [i64_w, i32_w]; rw [c9b0]) | skip)
     have H' := Aside0.mk H
     clear H
     go_wp2_with (first | ((with_reducible refine gate_callee (f := 74) rfl ?_); refine goesM (some 6) Tryd.func74 #[.slice A0 l0.length c0] ?_; (with_reducible refine (spec_TextOk.calls k _ _ l0 true _ ?side1 ?side2 A5.out).mono ?_); (case side1 => exact cpl (Kd.C_below HR0.out HB.out)); (case side2 => exact HC0.out); rintro e w10 ⟨rfl, hb⟩; refine ⟨_, rfl, ?_⟩; replace BK23001 := Aside0.mk (bkb BK23001 hb); replace HB := Aside0.mk (below_step hbs hb); (try clear hb); (try clear hb2); (try clear hk); (try clear hi); have hcz11_0 : w10.cell? ⟨gb23001, 0, none⟩ = some (.int .i64 a1_0) := (blk_cell BK23001.out 0).trans rfl; have hcz11_1 : w10.cell? ⟨gb23001, 1, none⟩ = some (.int .i64 a1_1) := (blk_cell BK23001.out 1).trans rfl; have hcz11_2 : w10.cell? ⟨gb23001, 2, none⟩ = some (.slice A1_2 l1_2.length c1_2) := (blk_cell BK23001.out 2).trans rfl; have hfz11_0 := blk_frozen BK23001.out 0; have hfz11_1 := blk_frozen BK23001.out 1; have hfz11_2 := blk_frozen BK23001.out 2) | (go_at_call 75; (with_reducible refine (spec_CutOk.calls k _ _ l0 a1_0 true _ ?side1 ?side2 A7.out).mono ?_); (case side1 => exact cpl (Kd.C_below HR0.out HB.out)); (case side2 => exact HC0.out); rintro e w12 ⟨rfl, hb⟩; replace BK23001 := Aside0.mk (bkb BK23001 hb); replace HB := Aside0.mk (below_step hbs hb); (try clear hb); (try clear hb2); (try clear hk); (try clear hi); have hcz13_0 : w12.cell? ⟨gb23001, 0, none⟩ = some (.int .i64 a1_0) := (blk_cell BK23001.out 0).trans rfl; have hcz13_1 : w12.cell? ⟨gb23001, 1, none⟩ = some (.int .i64 a1_1) := (blk_cell BK23001.out 1).trans rfl; have hcz13_2 : w12.cell? ⟨gb23001, 2, none⟩ = some (.slice A1_2 l1_2.length c1_2) := (blk_cell BK23001.out 2).trans rfl; have hfz13_0 := blk_frozen BK23001.out 0; have hfz13_1 := blk_frozen BK23001.out 1; have hfz13_2 := blk_frozen BK23001.out 2))
     go_meet
     case rel => exact ⟨_, (true), rfs, H', ⟨by first | omega | exact Nat.le_refl _⟩, ⟨by refine pB ?_; exact BK23001.out⟩, ⟨hbs⟩⟩
    ·rw [if_neg c9] at H
     have c9b0 : decide (a1_1 < 0) = false := decide_eq_false c9
     clear c9
     (first | rw [c9b0] | (simp only [i64_w, i32_w]; rw [c9b0]) | skip)
     by_cases c14 : a1_1 > (wrap64 ((l0.length : Int) - a1_0))
     ·rw [if_pos c14] at H
      have c14b0 : decide ((wrap64 ((l0.length : Int) - a1_0)) < a1_1) = true := decide_eq_true c14
      clear c14
      have H' := Aside0.mk H
      clear H
      go_wp2_with (first | ((with_reducible refine gate_callee (f := 74) rfl ?_); refine goesM (some 6) Tryd.func74 #[.slice A0 l0.length c0] ?_; (with_reducible refine (spec_TextOk.calls k _ _ l0 true _ ?side1 ?side2 A5.out).mono ?_); (case side1 => exact cpl (Kd.C_below HR0.out HB.out)); (case side2 => exact HC0.out); rintro e w15 ⟨rfl, hb⟩; refine ⟨_, rfl, ?_⟩; replace BK23001 := Aside0.mk (bkb BK23001 hb); replace HB := Aside0.mk (below_step hbs hb); (try clear hb); (try clear hb2); (try clear hk); (try clear hi); have hcz16_0 : w15.cell? ⟨gb23001, 0, none⟩ = some (.int .i64 a1_0) := (blk_cell BK23001.out 0).trans rfl; have hcz16_1 : w15.cell? ⟨gb23001, 1, none⟩ = some (.int .i64 a1_1) := (blk_cell BK23001.out 1).trans rfl; have hcz16_2 : w15.cell? ⟨gb23001, 2, none⟩ = some (.slice A1_2 l1_2.length c1_2) := (blk_cell BK23001.out 2).trans rfl; have hfz16_0 := blk_frozen BK23001.out 0; have hfz16_1 := blk_frozen BK23001.out 1; have hfz16_2 := blk_frozen BK23001.out 2) | (go_at_call 75; (with_reducible refine (spec_CutOk.calls k _ _ l0 a1_0 true _ ?side1 ?side2 A7.out).mono ?_); (case side1 => exact cpl (Kd.C_below HR0.out HB.out)); (case side2 => exact HC0.out); rintro e w17 ⟨rfl, hb⟩; replace BK23001 := Aside0.mk (bkb BK23001 hb); replace HB := Aside0.mk (below_step hbs hb); (try clear hb); (try clear hb2); (try clear hk); (try clear hi); have hcz18_0 : w17.cell? ⟨gb23001, 0, none⟩ = some (.int .i64 a1_0) := (blk_cell BK23001.out 0).trans rfl; have hcz18_1 : w17.cell? ⟨gb23001, 1, none⟩ = some (.int .i64 a1_1) := (blk_cell BK23001.out 1).trans rfl; have hcz18_2 : w17.cell? ⟨gb23001, 2, none⟩ = some (.slice A1_2 l1_2.length c1_2) := (blk_cell BK23001.out 2).trans rfl; have hfz18_0 := blk_frozen BK23001.out 0; have hfz18_1 := blk_frozen BK23001.out 1; have hfz18_2 := blk_frozen BK23001.out 2))
      go_meet
      case rel => exact ⟨_, (true), rfs, H', ⟨by first | omega | exact Nat.le_refl _⟩, ⟨by refine pB ?_; exact BK23001.out⟩, ⟨hbs⟩⟩
     ·rw [if_neg c14] at H
      have c14b0 : decide ((wrap64 ((l0.length : Int) - a1_0)) < a1_1) = false := decide_eq_false c14
      clear c14
      replace H := Option.bind_eq_some_iff.mp H
      obtain ⟨t23004, A190, H⟩ := H
      replace H : (if t23004 = true then ((spec_TextOk.f k l1_2).bind fun t23005 => (spec_EditOk.j0 k l0 (!t23005) a1_0 a1_1 l1_2)) else (spec_EditOk.j0 k l0 true a1_0 a1_1 l1_2)) = some r := H
      have A19 := Aside0.mk A190
      clear A190
      by_cases c20 : t23004 = true
      ·subst c20
       have H1 : ((spec_TextOk.f k l1_2).bind fun t23005 => (spec_EditOk.j0 k l0 (!t23005) a1_0 a1_1 l1_2)) = some r := by rw [if_pos rfl] at H; exact H
       clear H
       have H := H1
       clear H1
       replace H := Option.bind_eq_some_iff.mp H
       obtain ⟨t23005, A210, H⟩ := H
       replace H : (spec_EditOk.j0 k l0 (!t23005) a1_0 a1_1 l1_2) = some r := H
       have A21 := Aside0.mk A210
       clear A210
       have H' := Aside0.mk H
       clear H
       go_wp2_with (first | ((with_reducible refine gate_callee (f := 74) rfl ?_); refine goesM (some 6) Tryd.func74 #[.slice A0 l0.length c0] ?_; (with_reducible refine (spec_TextOk.calls k _ _ l0 true _ ?side1 ?side2 A5.out).mono ?_); (case side1 => exact cpl (Kd.C_below HR0.out HB.out)); (case side2 => exact HC0.out); rintro e w22 ⟨rfl, hb⟩; refine ⟨_, rfl, ?_⟩; replace BK23001 := Aside0.mk (bkb BK23001 hb); replace HB := Aside0.mk (below_step hbs hb); (try clear hb); (try clear hb2); (try clear hk); (try clear hi); have hcz23_0 : w22.cell? ⟨gb23001, 0, none⟩ = some (.int .i64 a1_0) := (blk_cell BK23001.out 0).trans rfl; have hcz23_1 : w22.cell? ⟨gb23001, 1, none⟩ = some (.int .i64 a1_1) := (blk_cell BK23001.out 1).trans rfl; have hcz23_2 : w22.cell? ⟨gb23001, 2, none⟩ = some (.slice A1_2 l1_2.length c1_2) := (blk_cell BK23001.out 2).trans rfl; have hfz23_0 := blk_frozen BK23001.out 0; have hfz23_1 := blk_frozen BK23001.out 1; have hfz23_2 := blk_frozen BK23001.out 2) | (go_at_call 75; (with_reducible refine (spec_CutOk.calls k _ _ l0 a1_0 true _ ?side1 ?side2 A7.out).mono ?_); (case side1 => exact cpl (Kd.C_below HR0.out HB.out)); (case side2 => exact HC0.out); rintro e w24 ⟨rfl, hb⟩; replace BK23001 := Aside0.mk (bkb BK23001 hb); replace HB := Aside0.mk (below_step hbs hb); (try clear hb); (try clear hb2); (try clear hk); (try clear hi); have hcz25_0 : w24.cell? ⟨gb23001, 0, none⟩ = some (.int .i64 a1_0) := (blk_cell BK23001.out 0).trans rfl; have hcz25_1 : w24.cell? ⟨gb23001, 1, none⟩ = some (.int .i64 a1_1) := (blk_cell BK23001.out 1).trans rfl; have hcz25_2 : w24.cell? ⟨gb23001, 2, none⟩ = some (.slice A1_2 l1_2.length c1_2) := (blk_cell BK23001.out 2).trans rfl; have hfz25_0 := blk_frozen BK23001.out 0; have hfz25_1 := blk_frozen BK23001.out 1; have hfz25_2 := blk_frozen BK23001.out 2) | (go_at_call 75; (with_reducible refine (spec_CutOk.calls k _ _ l0 (wrap64 (a1_0 + a1_1)) true _ ?side1 ?side2 A19.out).mono ?_); (case side1 => exact cpl (Kd.C_below HR0.out HB.out)); (case side2 => exact HC0.out); rintro e w26 ⟨rfl, hb⟩; replace BK23001 := Aside0.mk (bkb BK23001 hb); replace HB := Aside0.mk (below_step hbs hb); (try clear hb); (try clear hb2); (try clear hk); (try clear hi); have hcz27_0 : w26.cell? ⟨gb23001, 0, none⟩ = some (.int .i64 a1_0) := (blk_cell BK23001.out 0).trans rfl; have hcz27_1 : w26.cell? ⟨gb23001, 1, none⟩ = some (.int .i64 a1_1) := (blk_cell BK23001.out 1).trans rfl; have hcz27_2 : w26.cell? ⟨gb23001, 2, none⟩ = some (.slice A1_2 l1_2.length c1_2) := (blk_cell BK23001.out 2).trans rfl; have hfz27_0 := blk_frozen BK23001.out 0; have hfz27_1 := blk_frozen BK23001.out 1; have hfz27_2 := blk_frozen BK23001.out 2) | (go_at_call 74; (with_reducible refine (spec_TextOk.calls k _ _ l1_2 t23005 _ ?side1 ?side2 A21.out).mono ?_); (case side1 => exact cpl (Kd.C_below HR1_2.out HB.out)); (case side2 => exact HC1_2.out); rintro e w28 ⟨rfl, hb⟩; replace BK23001 := Aside0.mk (bkb BK23001 hb); replace HB := Aside0.mk (below_step hbs hb); (try clear hb); (try clear hb2); (try clear hk); (try clear hi)))
       go_meet
       case rel => exact ⟨_, (!t23005), rfs, H', ⟨by first | omega | exact Nat.le_refl _⟩, ⟨by refine pB ?_; exact BK23001.out⟩, ⟨hbs⟩⟩
      ·replace c20 := Bool.eq_false_iff.mpr c20
       subst c20
       have H1 : (spec_EditOk.j0 k l0 true a1_0 a1_1 l1_2) = some r := by rw [if_neg (show ¬ (false = true) by decide)] at H; exact H
       clear H
       have H := H1
       clear H1
       have H' := Aside0.mk H
       clear H
       go_wp2_with (first | ((with_reducible refine gate_callee (f := 74) rfl ?_); refine goesM (some 6) Tryd.func74 #[.slice A0 l0.length c0] ?_; (with_reducible refine (spec_TextOk.calls k _ _ l0 true _ ?side1 ?side2 A5.out).mono ?_); (case side1 => exact cpl (Kd.C_below HR0.out HB.out)); (case side2 => exact HC0.out); rintro e w29 ⟨rfl, hb⟩; refine ⟨_, rfl, ?_⟩; replace BK23001 := Aside0.mk (bkb BK23001 hb); replace HB := Aside0.mk (below_step hbs hb); (try clear hb); (try clear hb2); (try clear hk); (try clear hi); have hcz30_0 : w29.cell? ⟨gb23001, 0, none⟩ = some (.int .i64 a1_0) := (blk_cell BK23001.out 0).trans rfl; have hcz30_1 : w29.cell? ⟨gb23001, 1, none⟩ = some (.int .i64 a1_1) := (blk_cell BK23001.out 1).trans rfl; have hcz30_2 : w29.cell? ⟨gb23001, 2, none⟩ = some (.slice A1_2 l1_2.length c1_2) := (blk_cell BK23001.out 2).trans rfl; have hfz30_0 := blk_frozen BK23001.out 0; have hfz30_1 := blk_frozen BK23001.out 1; have hfz30_2 := blk_frozen BK23001.out 2) | (go_at_call 75; (with_reducible refine (spec_CutOk.calls k _ _ l0 a1_0 true _ ?side1 ?side2 A7.out).mono ?_); (case side1 => exact cpl (Kd.C_below HR0.out HB.out)); (case side2 => exact HC0.out); rintro e w31 ⟨rfl, hb⟩; replace BK23001 := Aside0.mk (bkb BK23001 hb); replace HB := Aside0.mk (below_step hbs hb); (try clear hb); (try clear hb2); (try clear hk); (try clear hi); have hcz32_0 : w31.cell? ⟨gb23001, 0, none⟩ = some (.int .i64 a1_0) := (blk_cell BK23001.out 0).trans rfl; have hcz32_1 : w31.cell? ⟨gb23001, 1, none⟩ = some (.int .i64 a1_1) := (blk_cell BK23001.out 1).trans rfl; have hcz32_2 : w31.cell? ⟨gb23001, 2, none⟩ = some (.slice A1_2 l1_2.length c1_2) := (blk_cell BK23001.out 2).trans rfl; have hfz32_0 := blk_frozen BK23001.out 0; have hfz32_1 := blk_frozen BK23001.out 1; have hfz32_2 := blk_frozen BK23001.out 2) | (go_at_call 75; (with_reducible refine (spec_CutOk.calls k _ _ l0 (wrap64 (a1_0 + a1_1)) false _ ?side1 ?side2 A19.out).mono ?_); (case side1 => exact cpl (Kd.C_below HR0.out HB.out)); (case side2 => exact HC0.out); rintro e w33 ⟨rfl, hb⟩; replace BK23001 := Aside0.mk (bkb BK23001 hb); replace HB := Aside0.mk (below_step hbs hb); (try clear hb); (try clear hb2); (try clear hk); (try clear hi)))
       go_meet
       case rel => exact ⟨_, (true), rfs, H', ⟨by first | omega | exact Nat.le_refl _⟩, ⟨by refine pB ?_; exact BK23001.out⟩, ⟨hbs⟩⟩
   ·replace c8 := Bool.eq_false_iff.mpr c8
    subst c8
    have H1 : (spec_EditOk.j0 k l0 true a1_0 a1_1 l1_2) = some r := by rw [if_neg (show ¬ (false = true) by decide)] at H; exact H
    clear H
    have H := H1
    clear H1
    have H' := Aside0.mk H
    clear H
    go_wp2_with (first | ((with_reducible refine gate_callee (f := 74) rfl ?_); refine goesM (some 6) Tryd.func74 #[.slice A0 l0.length c0] ?_; (with_reducible refine (spec_TextOk.calls k _ _ l0 true _ ?side1 ?side2 A5.out).mono ?_); (case side1 => exact cpl (Kd.C_below HR0.out HB.out)); (case side2 => exact HC0.out); rintro e w34 ⟨rfl, hb⟩; refine ⟨_, rfl, ?_⟩; replace BK23001 := Aside0.mk (bkb BK23001 hb); replace HB := Aside0.mk (below_step hbs hb); (try clear hb); (try clear hb2); (try clear hk); (try clear hi); have hcz35_0 : w34.cell? ⟨gb23001, 0, none⟩ = some (.int .i64 a1_0) := (blk_cell BK23001.out 0).trans rfl; have hcz35_1 : w34.cell? ⟨gb23001, 1, none⟩ = some (.int .i64 a1_1) := (blk_cell BK23001.out 1).trans rfl; have hcz35_2 : w34.cell? ⟨gb23001, 2, none⟩ = some (.slice A1_2 l1_2.length c1_2) := (blk_cell BK23001.out 2).trans rfl; have hfz35_0 := blk_frozen BK23001.out 0; have hfz35_1 := blk_frozen BK23001.out 1; have hfz35_2 := blk_frozen BK23001.out 2) | (go_at_call 75; (with_reducible refine (spec_CutOk.calls k _ _ l0 a1_0 false _ ?side1 ?side2 A7.out).mono ?_); (case side1 => exact cpl (Kd.C_below HR0.out HB.out)); (case side2 => exact HC0.out); rintro e w36 ⟨rfl, hb⟩; replace BK23001 := Aside0.mk (bkb BK23001 hb); replace HB := Aside0.mk (below_step hbs hb); (try clear hb); (try clear hb2); (try clear hk); (try clear hi)))
    go_meet
    case rel => exact ⟨_, (true), rfs, H', ⟨by first | omega | exact Nat.le_refl _⟩, ⟨by refine pB ?_; exact BK23001.out⟩, ⟨hbs⟩⟩
  ·replace c6 := Bool.eq_false_iff.mpr c6
   subst c6
   have H1 : (spec_EditOk.j0 k l0 true a1_0 a1_1 l1_2) = some r := by rw [if_neg (show ¬ (false = true) by decide)] at H; exact H
   clear H
   have H := H1
   clear H1
   have H' := Aside0.mk H
   clear H
   go_wp2_with (first | ((with_reducible refine gate_callee (f := 74) rfl ?_); refine goesM (some 6) Tryd.func74 #[.slice A0 l0.length c0] ?_; (with_reducible refine (spec_TextOk.calls k _ _ l0 false _ ?side1 ?side2 A5.out).mono ?_); (case side1 => exact cpl (Kd.C_below HR0.out HB.out)); (case side2 => exact HC0.out); rintro e w37 ⟨rfl, hb⟩; refine ⟨_, rfl, ?_⟩; replace BK23001 := Aside0.mk (bkb BK23001 hb); replace HB := Aside0.mk (below_step hbs hb); (try clear hb); (try clear hb2); (try clear hk); (try clear hi)))
   go_meet
   case rel => exact ⟨_, (true), rfs, H', ⟨by first | omega | exact Nat.le_refl _⟩, ⟨by refine pB ?_; exact BK23001.out⟩, ⟨hbs⟩⟩
 case rest =>
  clear HC3
  try clear c1
  try clear c2
  try clear p2
  try clear c6
  try clear p6
  try clear c7
  try clear c8
  try clear c9
  try clear c9b0
  try clear c14
  try clear c14b0
  try clear c20
  try clear c22
  try clear hcz11_0
  try clear hcz11_1
  try clear hcz11_2
  try clear hcz13_0
  try clear hcz13_1
  try clear hcz13_2
  try clear hcz16_0
  try clear hcz16_1
  try clear hcz16_2
  try clear hcz18_0
  try clear hcz18_1
  try clear hcz18_2
  try clear hcz23_0
  try clear hcz23_1
  try clear hcz23_2
  try clear hcz25_0
  try clear hcz25_1
  try clear hcz25_2
  try clear hcz27_0
  try clear hcz27_1
  try clear hcz27_2
  try clear hcz30_0
  try clear hcz30_1
  try clear hcz30_2
  try clear hcz32_0
  try clear hcz32_1
  try clear hcz32_2
  try clear hcz35_0
  try clear hcz35_1
  try clear hcz35_2
  try clear hfz11_0
  try clear hfz11_1
  try clear hfz11_2
  try clear hfz13_0
  try clear hfz13_1
  try clear hfz13_2
  try clear hfz16_0
  try clear hfz16_1
  try clear hfz16_2
  try clear hfz18_0
  try clear hfz18_1
  try clear hfz18_2
  try clear hfz23_0
  try clear hfz23_1
  try clear hfz23_2
  try clear hfz25_0
  try clear hfz25_1
  try clear hfz25_2
  try clear hfz27_0
  try clear hfz27_1
  try clear hfz27_2
  try clear hfz30_0
  try clear hfz30_1
  try clear hfz30_2
  try clear hfz32_0
  try clear hfz32_1
  try clear hfz32_2
  try clear hfz35_0
  try clear hfz35_1
  try clear hfz35_2
  obtain ⟨kq, x45_2, rfl, HA, HJ2, BK23001, HB⟩ := hcut
  cases kq with
  | zero => exact absurd HA.out (by simp [spec_EditOk.j0])
  | succ kj2 =>
   have H := HA.out
   clear HA
   simp only [spec_EditOk.j0] at H
   by_cases c38 : x45_2 = true
   ·subst c38
    have H1 : (some false) = some r := by rw [if_pos rfl] at H; exact H
    clear H
    have H := H1
    clear H1
    obtain rfl := Option.some.inj H
    go_wp2
    go_ret
    exact ⟨erf, hbs⟩
   ·replace c38 := Bool.eq_false_iff.mpr c38
    subst c38
    have H1 : (some (decide ((wrap64 ((wrap64 ((l0.length : Int) - a1_1)) + (l1_2.length : Int))) ≤ 400))) = some r := by rw [if_neg (show ¬ (false = true) by decide)] at H; exact H
    clear H
    have H := H1
    clear H1
    obtain rfl := Option.some.inj H
    have hcz39_0 : wc.cell? ⟨gb23001, 0, none⟩ = some (.int .i64 a1_0) := (blk_cell BK23001.out 0).trans rfl
    have hcz39_1 : wc.cell? ⟨gb23001, 1, none⟩ = some (.int .i64 a1_1) := (blk_cell BK23001.out 1).trans rfl
    have hcz39_2 : wc.cell? ⟨gb23001, 2, none⟩ = some (.slice A1_2 l1_2.length c1_2) := (blk_cell BK23001.out 2).trans rfl
    have hfz39_0 := blk_frozen BK23001.out 0
    have hfz39_1 := blk_frozen BK23001.out 1
    have hfz39_2 := blk_frozen BK23001.out 2
    go_wp2
    go_ret
    exact ⟨erf, hbs⟩
def spec_EditDo.f (k : Nat) (l0 : List Int) (a1_0 : Int) (a1_1 : Int) (l1_2 : List Int) : Option (List Int × Bool) := (spec_EditOk.f k l0 a1_0 a1_1 l1_2).bind fun t19002 => (if t19002 = true then ((some (([] : List Int) : List Int)).bind fun y19003 => (if 0 ≤ a1_0 then (if a1_0 ≤ (l0.length : Int) then (if y19003.length + (l0.take (a1_0 : Int).toNat).length < 140737488355328 then ((some (y19003 ++ (l0.take (a1_0 : Int).toNat) : List Int)).bind fun y19007 => (if y19007.length + l1_2.length < 140737488355328 then ((some (y19007 ++ l1_2 : List Int)).bind fun y19010 => (if 0 ≤ (wrap64 (a1_0 + a1_1)) then (if (wrap64 (a1_0 + a1_1)) ≤ (l0.length : Int) then (if y19010.length + (l0.drop ((wrap64 (a1_0 + a1_1)) : Int).toNat).length < 140737488355328 then (some ((y19010 ++ (l0.drop ((wrap64 (a1_0 + a1_1)) : Int).toNat)), true)) else (none)) else (none)) else (none))) else (none))) else (none)) else (none)) else (none))) else (some (([] : List Int), false)))
theorem spec_EditDo.mono : ∀ a0 a1 a2 a3 k, LeO (spec_EditDo.f k a0 a1 a2 a3) (spec_EditDo.f (k + 1) a0 a1 a2 a3) := by
 intro a0 a1 a2 a3 k
 unfold spec_EditDo.f
 repeat' first
   | (with_reducible exact spec_EditOk.mono _ _ _ _ _)
   | (with_reducible exact LeO.refl _)
   | (with_reducible exact LeO.none _)
   | (with_reducible refine LeO.ite ?_ ?_)
   | (with_reducible refine LeO.bind ?_ (fun _ => ?_))
   | exact spec_EditOk.mono _ _ _ _ _
   | exact LeO.none _
   | refine LeO.ite ?_ ?_
   | refine LeO.bind ?_ (fun _ => ?_)
def spec_EditDo.T3 : Bool × List (List Nat × List Nat) := (true, [([], []), ([], []), ([], []), ([2], [2]), ([1, 3], [1, 3]), ([0, 4], [0, 4]), ([], []), ([6], [6]), ([5, 7, 5], [5, 7]), ([], []), ([], []), ([10], [10]), ([], []), ([12], [12]), ([11, 13], [11, 13]), ([9, 14], [9, 14]), ([8, 15, 8], [8, 15]), ([16, 16, 0, 1, 2, 3, 4, 5, 6, 7, 8, 9, 10, 11, 12, 13, 14, 15, 16], [16]), ([17, 0, 1, 2, 3, 4, 5, 6, 7, 8, 9, 10, 11, 12, 13, 14, 15, 16, 17], [])])
def spec_EditDo.B3 : List Nat := [0, 0, 0, 4, 14, 31, 0, 64, 255, 0, 0, 1024, 0, 4096, 15360, 32256, 65535, 131071, 262143]
theorem spec_EditDo.tab3 : rtab .any (opsOf Tryd.f18 3) = spec_EditDo.T3 := by kernel_rfl
theorem spec_EditDo.bits3 : waitsOk spec_EditDo.T3.2 spec_EditDo.B3 = true := by kernel_rfl
set_option maxHeartbeats 8000000 in
set_option maxRecDepth 100000 in
theorem spec_EditDo.calls (k : Nat) (A0 : Option Addr) (c0 : Nat) (l0 : List Int) (a1_0 : Int) (a1_1 : Int) (A1_2 : Option Addr) (c1_2 : Nat) (l1_2 : List Int) (r1 : List Int) (r2 : Bool) (w : World) (hr0 : Kd.C (Kd.int .u8) w A0 l0.length l0) (hc0 : l0.length ≤ c0) (hr1_2 : Kd.C (Kd.int .u8) w A1_2 l1_2.length l1_2) (hc1_2 : l1_2.length ≤ c1_2) (h : spec_EditDo.f k l0 a1_0 a1_1 l1_2 = some (r1, r2)) :
  Calls Tryd.prog 18 #[.slice A0 l0.length c0, .agg #[.int .i64 a1_0, .int .i64 a1_1, .slice A1_2 l1_2.length c1_2]] w fun e w' => ∃ v0_ : Value, e = .returned (.tuple #[v0_, .bool r2]) ∧ Kd.R (Kd.int .u8) 5 w' w.heap.size (fun _ => True) v0_ r1 ∧ Below w.heap.size w w' := by
 have hu25 := Tryd.underlying25
 have HR0 := Aside0.mk hr0
 have HC0 := Aside0.mk hc0
 clear hr0 hc0
 have HR1_2 := Aside0.mk hr1_2
 have HC1_2 := Aside0.mk hc1_2
 clear hr1_2 hc1_2
 have HB := Aside0.mk (Below.refl w.heap.size w)
 have H : ((spec_EditOk.f k l0 a1_0 a1_1 l1_2).bind fun t19002 => (if t19002 = true then ((some (([] : List Int) : List Int)).bind fun y19003 => (if 0 ≤ a1_0 then (if a1_0 ≤ (l0.length : Int) then (if y19003.length + (l0.take (a1_0 : Int).toNat).length < 140737488355328 then ((some (y19003 ++ (l0.take (a1_0 : Int).toNat) : List Int)).bind fun y19007 => (if y19007.length + l1_2.length < 140737488355328 then ((some (y19007 ++ l1_2 : List Int)).bind fun y19010 => (if 0 ≤ (wrap64 (a1_0 + a1_1)) then (if (wrap64 (a1_0 + a1_1)) ≤ (l0.length : Int) then (if y19010.length + (l0.drop ((wrap64 (a1_0 + a1_1)) : Int).toNat).length < 140737488355328 then (some ((y19010 ++ (l0.drop ((wrap64 (a1_0 + a1_1)) : Int).toNat)), true)) else (none)) else (none)) else (none))) else (none))) else (none)) else (none)) else (none))) else (some (([] : List Int), false)))) = some (r1, r2) := h
 clear h
 replace H := Option.bind_eq_some_iff.mp H
 obtain ⟨t19002, A30, H⟩ := H
 replace H : (if t19002 = true then ((some (([] : List Int) : List Int)).bind fun y19003 => (if 0 ≤ a1_0 then (if a1_0 ≤ (l0.length : Int) then (if y19003.length + (l0.take (a1_0 : Int).toNat).length < 140737488355328 then ((some (y19003 ++ (l0.take (a1_0 : Int).toNat) : List Int)).bind fun y19007 => (if y19007.length + l1_2.length < 140737488355328 then ((some (y19007 ++ l1_2 : List Int)).bind fun y19010 => (if 0 ≤ (wrap64 (a1_0 + a1_1)) then (if (wrap64 (a1_0 + a1_1)) ≤ (l0.length : Int) then (if y19010.length + (l0.drop ((wrap64 (a1_0 + a1_1)) : Int).toNat).length < 140737488355328 then (some ((y19010 ++ (l0.drop ((wrap64 (a1_0 + a1_1)) : Int).toNat)), true)) else (none)) else (none)) else (none))) else (none))) else (none)) else (none)) else (none))) else (some (([] : List Int), false))) = some (r1, r2) := H
 have A3 := Aside0.mk A30
 clear A30
 by_cases c4 : t19002 = true
 ·subst c4
  have H1 : ((some (([] : List Int) : List Int)).bind fun y19003 => (if 0 ≤ a1_0 then (if a1_0 ≤ (l0.length : Int) then (if y19003.length + (l0.take (a1_0 : Int).toNat).length < 140737488355328 then ((some (y19003 ++ (l0.take (a1_0 : Int).toNat) : List Int)).bind fun y19007 => (if y19007.length + l1_2.length < 140737488355328 then ((some (y19007 ++ l1_2 : List Int)).bind fun y19010 => (if 0 ≤ (wrap64 (a1_0 + a1_1)) then (if (wrap64 (a1_0 + a1_1)) ≤ (l0.length : Int) then (if y19010.length + (l0.drop ((wrap64 (a1_0 + a1_1)) : Int).toNat).length < 140737488355328 then (some ((y19010 ++ (l0.drop ((wrap64 (a1_0 + a1_1)) : Int).toNat)), true)) else (none)) else (none)) else (none))) else (none))) else (none)) else (none)) else (none))) = some (r1, r2) := by rw [if_pos rfl] at H; exact H
  clear H
  have H := H1
  clear H1
  obtain ⟨y19003, hy19003⟩ : ∃ y_ : List Int, y_ = (([] : List Int)) := ⟨_, rfl⟩
  replace H : (if 0 ≤ a1_0 then (if a1_0 ≤ (l0.length : Int) then (if y19003.length + (l0.take (a1_0 : Int).toNat).length < 140737488355328 then ((some (y19003 ++ (l0.take (a1_0 : Int).toNat) : List Int)).bind fun y19007 => (if y19007.length + l1_2.length < 140737488355328 then ((some (y19007 ++ l1_2 : List Int)).bind fun y19010 => (if 0 ≤ (wrap64 (a1_0 + a1_1)) then (if (wrap64 (a1_0 + a1_1)) ≤ (l0.length : Int) then (if y19010.length + (l0.drop ((wrap64 (a1_0 + a1_1)) : Int).toNat).length < 140737488355328 then (some ((y19010 ++ (l0.drop ((wrap64 (a1_0 + a1_1)) : Int).toNat)), true)) else (none)) else (none)) else (none))) else (none))) else (none)) else (none)) else (none)) = some (r1, r2) := repH hy19003 H
  have Ny19003 := Aside0.mk hy19003
  clear hy19003
  by_cases c5 : 0 ≤ a1_0
  ·rw [if_pos c5] at H
   have c5b0 := eq_true c5
   have c5b1 : decide (0 ≤ a1_0) = true := decide_eq_true c5
   clear c5
   by_cases c6 : a1_0 ≤ (l0.length : Int)
   ·rw [if_pos c6] at H
    have c6b0 := eq_true c6
    have c6b1 : decide (a1_0 ≤ (l0.length : Int)) = true := decide_eq_true c6
    clear c6
    by_cases c7 : y19003.length + (l0.take (a1_0 : Int).toNat).length < 140737488355328
    ·rw [if_pos c7] at H
     have LMc7 := Aside0.mk c7
     clear c7
     obtain ⟨y19007, hy19007⟩ : ∃ y_ : List Int, y_ = (y19003 ++ (l0.take (a1_0 : Int).toNat)) := ⟨_, rfl⟩
     replace H : (if y19007.length + l1_2.length < 140737488355328 then ((some (y19007 ++ l1_2 : List Int)).bind fun y19010 => (if 0 ≤ (wrap64 (a1_0 + a1_1)) then (if (wrap64 (a1_0 + a1_1)) ≤ (l0.length : Int) then (if y19010.length + (l0.drop ((wrap64 (a1_0 + a1_1)) : Int).toNat).length < 140737488355328 then (some ((y19010 ++ (l0.drop ((wrap64 (a1_0 + a1_1)) : Int).toNat)), true)) else (none)) else (none)) else (none))) else (none)) = some (r1, r2) := repH hy19007 H
     have Ny19007 := Aside0.mk hy19007
     clear hy19007
     by_cases c8 : y19007.length + l1_2.length < 140737488355328
     ·rw [if_pos c8] at H
      have LMc8 := Aside0.mk c8
      clear c8
      obtain ⟨y19010, hy19010⟩ : ∃ y_ : List Int, y_ = (y19007 ++ l1_2) := ⟨_, rfl⟩
      replace H : (if 0 ≤ (wrap64 (a1_0 + a1_1)) then (if (wrap64 (a1_0 + a1_1)) ≤ (l0.length : Int) then (if y19010.length + (l0.drop ((wrap64 (a1_0 + a1_1)) : Int).toNat).length < 140737488355328 then (some ((y19010 ++ (l0.drop ((wrap64 (a1_0 + a1_1)) : Int).toNat)), true)) else (none)) else (none)) else (none)) = some (r1, r2) := repH hy19010 H
      have Ny19010 := Aside0.mk hy19010
      clear hy19010
      obtain ⟨ji9, hji9⟩ : ∃ j_ : Int, (wrap64 (a1_0 + a1_1)) = j_ := ⟨_, rfl⟩
      replace H : (if 0 ≤ (ji9) then (if (ji9) ≤ (l0.length : Int) then (if y19010.length + (l0.drop ((ji9) : Int).toNat).length < 140737488355328 then (some ((y19010 ++ (l0.drop ((ji9) : Int).toNat)), true)) else (none)) else (none)) else (none)) = some (r1, r2) := by first | (rw [hji9] at H; exact H) | (simp only [hji9] at H ⊢; exact H)
      (try rw [hji9] at A3)
      have hji9w : (IntKind.i64.wrap (a1_0 + a1_1)) = ji9 := (i64_w _).trans hji9
      by_cases c10 : 0 ≤ (ji9)
      ·rw [if_pos c10] at H
       have c10b0 := eq_true c10
       have c10b1 : decide (0 ≤ (ji9)) = true := decide_eq_true c10
       clear c10
       by_cases c11 : (ji9) ≤ (l0.length : Int)
       ·rw [if_pos c11] at H
        have c11b0 := eq_true c11
        have c11b1 : decide ((ji9) ≤ (l0.length : Int)) = true := decide_eq_true c11
        clear c11
        by_cases c12 : y19010.length + (l0.drop ((ji9) : Int).toNat).length < 140737488355328
        ·rw [if_pos c12] at H
         have LMc12 := Aside0.mk c12
         clear c12
         obtain ⟨y19014, hy19014⟩ : ∃ y_ : List Int, y_ = (y19010 ++ (l0.drop ((ji9) : Int).toNat)) := ⟨_, rfl⟩
         replace H : (some (y19014, true)) = some (r1, r2) := repH hy19014 H
         have Ny19014 := Aside0.mk hy19014
         clear hy19014
         simp only [Option.some.injEq, Prod.mk.injEq] at H
         obtain ⟨rfl, rfl⟩ := H
         go_enter Tryd.func18, Tryd.ntmps18
         try go_wp2_with (first | ((with_reducible refine gate_dst (N := 3) rfl ?_); refine boxE 3 #[.int .i64 a1_0, .int .i64 a1_1, .slice A1_2 l1_2.length c1_2] 25 ?_; intro gb19001 hg w13 BK19001 hb; have GW19001 := Aside0.mk (gsz hg hbw : w.heap.size ≤ gb19001); have GE19001 := GW19001; replace HB := Aside0.mk (below_step hbw hb); clear hb hg; have hcz14_0 : w13.cell? ⟨gb19001, 0, none⟩ = some (.int .i64 a1_0) := (blk_cell BK19001.out 0).trans rfl; have hcz14_1 : w13.cell? ⟨gb19001, 1, none⟩ = some (.int .i64 a1_1) := (blk_cell BK19001.out 1).trans rfl; have hcz14_2 : w13.cell? ⟨gb19001, 2, none⟩ = some (.slice A1_2 l1_2.length c1_2) := (blk_cell BK19001.out 2).trans rfl; have hfz14_0 := blk_frozen BK19001.out 0; have hfz14_1 := blk_frozen BK19001.out 1; have hfz14_2 := blk_frozen BK19001.out 2) | ((with_reducible refine gate_callee (f := 22) rfl ?_); refine goesM (some 8) Tryd.func22 #[.slice A0 l0.length c0, .agg #[.int .i64 a1_0, .int .i64 a1_1, .slice A1_2 l1_2.length c1_2]] ?_; (with_reducible refine (spec_EditOk.calls k _ _ l0 a1_0 a1_1 _ _ l1_2 true _ ?side1 ?side2 ?side3 ?side4 A3.out).mono ?_); (case side1 => exact cpl (Kd.C_below HR0.out HB.out)); (case side2 => exact HC0.out); (case side3 => exact cpl (Kd.C_below HR1_2.out HB.out)); (case side4 => exact HC1_2.out); rintro e w15 ⟨rfl, hb⟩; refine ⟨_, rfl, ?_⟩; replace BK19001 := Aside0.mk (bkb BK19001 hb); replace HB := Aside0.mk (below_step hbs hb); (try clear hb); (try clear hb2); (try clear hk); (try clear hi)))
         replace BK19001 := Aside0.mk (blk_drew BK19001.out)
         replace HB := Aside0.mk (below_drew1 HB.out)
         obtain ⟨i017, hi017, _, hsz17, _⟩ := info_parts info5
         obtain ⟨hcut17, hA17, hC17⟩ := print_take_of (P := Tryd.prog) (Value.int .u8) 0 22 5 .i64 Tryd.underlying22 hi017 hsz17 A0 c0 l0 a1_0 (odt) (odt) HC0.out
         have HR19006 := Aside0.mk (Kd.C_of_reads (h1 := fun _ => rfl) (hA17 _ (Kd.reads_of_C HR0.out)))
         have HC19006 := Aside0.mk hC17
         clear hA17 hC17 hi017 hsz17
         obtain ⟨i018, hi018, _, hsz18, _⟩ := info_parts info5
         obtain ⟨A18, hcut18, hA18, hC18⟩ := print_drop_of (P := Tryd.prog) (Value.int .u8) 0 22 5 .i64 Tryd.underlying22 hi018 hsz18 A0 c0 l0 (ji9) (odt) (odt) HC0.out
         have HR19013 := Aside0.mk (Kd.C_of_reads (h1 := fun _ => rfl) (hA18 _ (Kd.reads_of_C HR0.out)))
         have HC19013 := Aside0.mk hC18
         clear hA18 hC18 hi018 hsz18
         refine start_ (n := 19) (S := fun w' => w'.cell? ⟨gb19001, 0, none⟩ = some (.int .i64 a1_0) ∧ w'.cell? ⟨gb19001, 1, none⟩ = some (.int .i64 a1_1) ∧ w'.cell? ⟨gb19001, 2, none⟩ = some (.slice A1_2 l1_2.length c1_2)) (ds := []) #[false, false, false, false, false, false, false, false, false, false, false, false, false, false, false, false, false, false, false] (by kernel_rfl) rfl rfl ⟨(blk_cell BK19001.out 0).trans rfl, (blk_cell BK19001.out 1).trans rfl, (blk_cell BK19001.out 2).trans rfl⟩ (fun hHeld => ?_); refine with_tabW spec_EditDo.tab3 spec_EditDo.bits3 (fun HT_ HW_ => ?_)
         generalize w15.drew = w16 at BK19001 HB HR19006 HR19013 hHeld ⊢
         refine pureM 1 (some 11) #[false, true, false, false, false, false, false, false, false, false, false, false, false, false, false, false, false, false, false] (any_of HT_.out (by kernel_rfl)) ?_
         refine pureM 2 (some 12) #[false, true, true, false, false, false, false, false, false, false, false, false, false, false, false, false, false, false, false] (any_of HT_.out (by kernel_rfl)) ?_
         refine pureM 6 (some 16) #[false, true, true, false, false, false, true, false, false, false, false, false, false, false, false, false, false, false, false] (any_of HT_.out (by kernel_rfl)) ?_
         refine pureM 9 (some 19) #[false, true, true, false, false, false, true, false, false, true, false, false, false, false, false, false, false, false, false] (any_of HT_.out (by kernel_rfl)) ?_
         refine pureM 10 (some 20) #[false, true, true, false, false, false, true, false, false, true, true, false, false, false, false, false, false, false, false] (any_of HT_.out (by kernel_rfl)) ?_
         refine pureM 12 (some 22) #[false, true, true, false, false, false, true, false, false, true, true, false, true, false, false, false, false, false, false] (any_of HT_.out (by kernel_rfl)) ?_
         refine take_ (i := 3) (N := some 13) (v := ?_) (a' := ?_) #[false, true, true, true, false, false, true, false, false, true, true, false, true, false, false, false, false, false, false] rfl rfl (take_ofW HT_.out HW_.out (by kernel_rfl)) (fun _ _ _ h => h) (Or.inl ⟨by rfl, ?_⟩) hHeld ?_ ?_
         rotate_left
         ·rintro w' ⟨s0, s1, s2⟩
          go_simp
          with_reducible rfl
         rotate_left
         ·simp only [Act.put, List.setIfInBounds_toArray, List.set_cons_zero, List.set_cons_succ, i64_w, i32_w]
          rfl
         refine pureM 4 (some 14) #[false, true, true, true, true, false, true, false, false, true, true, false, true, false, false, false, false, false, false] (any_of HT_.out (by kernel_rfl)) ?_
         refine take_ (i := 7) (N := some 17) (v := ?_) (a' := ?_) #[false, true, true, true, true, false, true, true, false, true, true, false, true, false, false, false, false, false, false] rfl rfl (take_ofW HT_.out HW_.out (by kernel_rfl)) (fun _ _ _ h => h) (Or.inl ⟨by rfl, ?_⟩) hHeld ?_ ?_
         rotate_left
         ·rintro w' ⟨s0, s1, s2⟩
          go_simp
          with_reducible rfl
         rotate_left
         ·simp only [Act.put, List.setIfInBounds_toArray, List.set_cons_zero, List.set_cons_succ, i64_w, i32_w]
          rfl
         refine take_ (i := 11) (N := some 21) (v := ?_) (a' := ?_) #[false, true, true, true, true, false, true, true, false, true, true, true, true, false, false, false, false, false, false] rfl rfl (take_ofW HT_.out HW_.out (by kernel_rfl)) (fun _ _ _ h => h) (Or.inl ⟨by rfl, ?_⟩) hHeld ?_ ?_
         rotate_left
         ·rintro w' ⟨s0, s1, s2⟩
          go_simp
          with_reducible rfl
         rotate_left
         ·simp only [Act.put, List.setIfInBounds_toArray, List.set_cons_zero, List.set_cons_succ, i64_w, i32_w]
          rfl
         refine take_ (i := 13) (N := some 23) (v := ?_) (a' := ?_) #[false, true, true, true, true, false, true, true, false, true, true, true, true, true, false, false, false, false, false] rfl rfl (take_ofW HT_.out HW_.out (by kernel_rfl)) (fun _ _ _ h => h) (Or.inl ⟨by rfl, ?_⟩) hHeld ?_ ?_
         rotate_left
         ·rintro w' ⟨s0, s1, s2⟩
          go_simp
          with_reducible rfl
         rotate_left
         ·simp only [Act.put, List.setIfInBounds_toArray, List.set_cons_zero, List.set_cons_succ, i64_w, i32_w]
          rfl
         refine pureM 14 (some 24) #[false, true, true, true, true, false, true, true, false, true, true, true, true, true, true, false, false, false, false] (any_of HT_.out (by kernel_rfl)) ?_
         refine pureM 15 (some 25) #[false, true, true, true, true, false, true, true, false, true, true, true, true, true, true, true, false, false, false] (any_of HT_.out (by kernel_rfl)) ?_
         refine one_ (i := 0) (N := some 10) #[true, true, true, true, true, false, true, true, false, true, true, true, true, true, true, true, false, false, false] rfl rfl (one_of HT_.out (by kernel_rfl)) (by decide) (fun K hK => ?_)
         refine Kd.R_lit_step (Kd.int .u8) _ 5 ?hg (N := 10) ?hd (xs := ([] : List Int)) (inner := []) (ok := fun _ => True) (okp := fun _ => True) ?hr ?hp (fun _ hk => hk) trivial (Below.refl _ _) (Nat.le_refl _) (by simp) ?_; (case hd => rfl); (case hg => rfl); (case hr => first | (go_simp; done) | (go_simp; rfl)); (case hp => exact (Reps.none _ _))
         intro v19004 w19 ho20 hb hg_ hnew_
         clear hg_ hnew_
         (first | rw [← Ny19003.out] at ho20 | (simp only [Int.reduceToNat] at ho20; rw [← Ny19003.out] at ho20))
         have HO19005 := Aside0.mk (Kd.R_lower ho20 (below_size hbs))
         replace BK19001 := Aside0.mk (bkb BK19001 hb)
         replace HB := Aside0.mk (below_step hbs hb)
         clear hb ho20
         refine hK.out _ _ ⟨(blk_cell BK19001.out 0).trans rfl, (blk_cell BK19001.out 1).trans rfl, (blk_cell BK19001.out 2).trans rfl⟩ (fun hHeld => ?_)
         clear hK K
         refine norm_ (a' := ?_) ?_ ?_
         rotate_left
         ·show Act.put _ (some 10) _ = _
          simp only [Act.put, List.setIfInBounds_toArray, List.set_cons_zero, List.set_cons_succ, i64_w, i32_w]
          rfl
         refine one_ (i := 5) (N := some 15) #[true, true, true, true, true, true, true, true, false, true, true, true, true, true, true, true, false, false, false] rfl rfl (one_of HT_.out (by kernel_rfl)) (by decide) (fun K hK => ?_)
         refine Kd.R_append_rows_step (Kd.int .u8) (w0 := w) w.heap.size (by rfl) (.tmp 10) (.tmp 14) 22 5 (.int .u8 0) 1 rfl Tryd.underlying22 info5 rfl (by decide) (by omega) v19004 y19003 (l0.take (a1_0 : Int).toNat) _ _ _ (fun _ => True) (fun _ => False) rfl rfl ?aO ?aR (fun _ _ h => h) (fun _ h => h.elim) ?aF ?aB ?aS ?aL ?_
         (case aR => first | (refine Eq.mp (congrArg (fun n_ => ReadsRow _ _ _ _ n_ _) (show (l0.take (a1_0 : Int).toNat).length = a1_0.toNat from (by rw [List.length_take]; have h_ : (a1_0 : Int) ≤ (l0.length : Int) := odt; omega))) ?_; repeat (first | exact (Kd.C_below HR19006.out HB.out) | (with_reducible refine Kd.C_alloc ?_ _) | (with_reducible refine Kd.C_drewN ?_ _) | (with_reducible refine Kd.C_drew ?_))) | (repeat (first | exact (Kd.C_below HR19006.out HB.out) | (with_reducible refine Kd.C_alloc ?_ _) | (with_reducible refine Kd.C_drewN ?_ _) | (with_reducible refine Kd.C_drew ?_))))
         (case aB => exact hbs)
         (case aF => exact (fun _ _ => trivial))
         (case aO => exact (hrnR HO19005))
         (case aS => exact (below_size hbs))
         (case aL => have := LMc7.out; have hlx_ := (show (l0.take (a1_0 : Int).toNat).length = a1_0.toNat from (by rw [List.length_take]; have h_ : (a1_0 : Int) ≤ (l0.length : Int) := odt; omega)); omega)
         intro v19008 w21 ho hb hg hat
         rw [← Ny19007.out] at ho
         have HO19009 := Aside0.mk (ho)
         replace BK19001 := Aside0.mk (blk_grown (g := gb19001) (o := .cells #[.int .i64 a1_0, .int .i64 a1_1, .slice A1_2 l1_2.length c1_2] 25 (0, 0)) (by refine pB ?_; exact BK19001.out) hg (Kd.R_ne HO19005.out BK19001.out (by decide)))
         replace HB := Aside0.mk (hb)
         clear HO19005
         clear ho hb hg hat
         refine hK.out _ _ ⟨(blk_cell BK19001.out 0).trans rfl, (blk_cell BK19001.out 1).trans rfl, (blk_cell BK19001.out 2).trans rfl⟩ (fun hHeld => ?_)
         clear hK K
         refine norm_ (a' := ?_) ?_ ?_
         rotate_left
         ·show Act.put _ (some 15) _ = _
          simp only [Act.put, List.setIfInBounds_toArray, List.set_cons_zero, List.set_cons_succ, i64_w, i32_w]
          rfl
         refine one_ (i := 8) (N := some 18) #[true, true, true, true, true, true, true, true, true, true, true, true, true, true, true, true, false, false, false] rfl rfl (one_of HT_.out (by kernel_rfl)) (by decide) (fun K hK => ?_)
         refine Kd.R_append_rows_step (Kd.int .u8) (w0 := w) w.heap.size (by rfl) (.tmp 15) (.tmp 17) 22 5 (.int .u8 0) 1 rfl Tryd.underlying22 info5 rfl (by decide) (by omega) v19008 y19007 l1_2 _ _ _ (fun _ => True) (fun _ => False) rfl rfl ?aO ?aR (fun _ _ h => h) (fun _ h => h.elim) ?aF ?aB ?aS ?aL ?_
         (case aR => repeat (first | exact (Kd.C_below HR1_2.out HB.out) | (with_reducible refine Kd.C_alloc ?_ _) | (with_reducible refine Kd.C_drewN ?_ _) | (with_reducible refine Kd.C_drew ?_)))
         (case aB => exact hbs)
         (case aF => exact (fun _ _ => trivial))
         (case aO => exact (hrnR HO19009))
         (case aS => exact (below_size hbs))
         (case aL => have := LMc8.out; omega)
         intro v19011 w22 ho hb hg hat
         rw [← Ny19010.out] at ho
         have HO19012 := Aside0.mk (ho)
         replace BK19001 := Aside0.mk (blk_grown (g := gb19001) (o := .cells #[.int .i64 a1_0, .int .i64 a1_1, .slice A1_2 l1_2.length c1_2] 25 (0, 0)) (by refine pB ?_; exact BK19001.out) hg (Kd.R_ne HO19009.out BK19001.out (by decide)))
         replace HB := Aside0.mk (hb)
         clear HO19009
         clear ho hb hg hat
         refine hK.out _ _ ⟨(blk_cell BK19001.out 0).trans rfl, (blk_cell BK19001.out 1).trans rfl, (blk_cell BK19001.out 2).trans rfl⟩ (fun hHeld => ?_)
         clear hK K
         refine norm_ (a' := ?_) ?_ ?_
         rotate_left
         ·show Act.put _ (some 18) _ = _
          simp only [Act.put, List.setIfInBounds_toArray, List.set_cons_zero, List.set_cons_succ, i64_w, i32_w]
          rfl
         refine one_ (i := 16) (N := some 26) #[true, true, true, true, true, true, true, true, true, true, true, true, true, true, true, true, true, false, false] rfl rfl (one_of HT_.out (by kernel_rfl)) (by decide) (fun K hK => ?_)
         refine Kd.R_append_rows_step (Kd.int .u8) (w0 := w) w.heap.size (by rfl) (.tmp 18) (.tmp 25) 22 5 (.int .u8 0) 1 rfl Tryd.underlying22 info5 rfl (by decide) (by omega) v19011 y19010 (l0.drop ((ji9) : Int).toNat) _ _ _ (fun _ => True) (fun _ => False) rfl rfl ?aO ?aR (fun _ _ h => h) (fun _ h => h.elim) ?aF ?aB ?aS ?aL ?_
         (case aR => first | (refine Eq.mp (congrArg (fun n_ => ReadsRow _ _ _ _ n_ _) (show (l0.drop ((ji9) : Int).toNat).length = (l0.length - (ji9).toNat) from List.length_drop)) ?_; repeat (first | exact (Kd.C_below HR19013.out HB.out) | (with_reducible refine Kd.C_alloc ?_ _) | (with_reducible refine Kd.C_drewN ?_ _) | (with_reducible refine Kd.C_drew ?_))) | (repeat (first | exact (Kd.C_below HR19013.out HB.out) | (with_reducible refine Kd.C_alloc ?_ _) | (with_reducible refine Kd.C_drewN ?_ _) | (with_reducible refine Kd.C_drew ?_))))
         (case aB => exact hbs)
         (case aF => exact (fun _ _ => trivial))
         (case aO => exact (hrnR HO19012))
         (case aS => exact (below_size hbs))
         (case aL => have := LMc12.out; have hlx_ := (show (l0.drop ((ji9) : Int).toNat).length = (l0.length - (ji9).toNat) from List.length_drop); omega)
         intro v19015 w23 ho hb hg hat
         rw [← Ny19014.out] at ho
         have HO19016 := Aside0.mk (ho)
         replace BK19001 := Aside0.mk (blk_grown (g := gb19001) (o := .cells #[.int .i64 a1_0, .int .i64 a1_1, .slice A1_2 l1_2.length c1_2] 25 (0, 0)) (by refine pB ?_; exact BK19001.out) hg (Kd.R_ne HO19012.out BK19001.out (by decide)))
         replace HB := Aside0.mk (hb)
         clear HO19012
         clear ho hb hg hat
         refine hK.out _ _ ⟨(blk_cell BK19001.out 0).trans rfl, (blk_cell BK19001.out 1).trans rfl, (blk_cell BK19001.out 2).trans rfl⟩ (fun hHeld => ?_)
         clear hK K
         refine norm_ (a' := ?_) ?_ ?_
         rotate_left
         ·show Act.put _ (some 26) _ = _
          simp only [Act.put, List.setIfInBounds_toArray, List.set_cons_zero, List.set_cons_succ, i64_w, i32_w]
          rfl
         refine pureM 17 (some 4) #[true, true, true, true, true, true, true, true, true, true, true, true, true, true, true, true, true, true, false] (any_of HT_.out (by kernel_rfl)) ?_
         refine pureM 18 (some 5) #[true, true, true, true, true, true, true, true, true, true, true, true, true, true, true, true, true, true, true] (any_of HT_.out (by kernel_rfl)) ?_
         refine done_ (done_of HT_.out (by kernel_rfl)) ?_
         try go_wp2
         go_ret2
         exact ⟨_, by first | rfl | (simp [errW_none, errW_some] <;> rfl) | (simp only [← hji9]; first | rfl | (simp [errW_none, errW_some] <;> rfl)) | (simp [*, errW_none, errW_some] <;> rfl), (hrnR HO19016), hbs⟩
        ·rw [if_neg c12] at H
         exact absurd H (by simp)
       ·rw [if_neg c11] at H
        exact absurd H (by simp)
      ·rw [if_neg c10] at H
       exact absurd H (by simp)
     ·rw [if_neg c8] at H
      exact absurd H (by simp)
    ·rw [if_neg c7] at H
     exact absurd H (by simp)
   ·rw [if_neg c6] at H
    exact absurd H (by simp)
  ·rw [if_neg c5] at H
   exact absurd H (by simp)
 ·replace c4 := Bool.eq_false_iff.mpr c4
  subst c4
  have H1 : (some (([] : List Int), false)) = some (r1, r2) := by rw [if_neg (show ¬ (false = true) by decide)] at H; exact H
  clear H
  have H := H1
  clear H1
  simp only [Option.some.injEq, Prod.mk.injEq] at H
  obtain ⟨rfl, rfl⟩ := H
  go_enter Tryd.func18, Tryd.ntmps18
  go_wp2_with (first | ((with_reducible refine gate_dst (N := 3) rfl ?_); refine boxE 3 #[.int .i64 a1_0, .int .i64 a1_1, .slice A1_2 l1_2.length c1_2] 25 ?_; intro gb19001 hg w24 BK19001 hb; have GW19001 := Aside0.mk (gsz hg hbw : w.heap.size ≤ gb19001); have GE19001 := GW19001; replace HB := Aside0.mk (below_step hbw hb); clear hb hg; have hcz25_0 : w24.cell? ⟨gb19001, 0, none⟩ = some (.int .i64 a1_0) := (blk_cell BK19001.out 0).trans rfl; have hcz25_1 : w24.cell? ⟨gb19001, 1, none⟩ = some (.int .i64 a1_1) := (blk_cell BK19001.out 1).trans rfl; have hcz25_2 : w24.cell? ⟨gb19001, 2, none⟩ = some (.slice A1_2 l1_2.length c1_2) := (blk_cell BK19001.out 2).trans rfl; have hfz25_0 := blk_frozen BK19001.out 0; have hfz25_1 := blk_frozen BK19001.out 1; have hfz25_2 := blk_frozen BK19001.out 2) | ((with_reducible refine gate_callee (f := 22) rfl ?_); refine goesM (some 8) Tryd.func22 #[.slice A0 l0.length c0, .agg #[.int .i64 a1_0, .int .i64 a1_1, .slice A1_2 l1_2.length c1_2]] ?_; (with_reducible refine (spec_EditOk.calls k _ _ l0 a1_0 a1_1 _ _ l1_2 false _ ?side1 ?side2 ?side3 ?side4 A3.out).mono ?_); (case side1 => exact cpl (Kd.C_below HR0.out HB.out)); (case side2 => exact HC0.out); (case side3 => exact cpl (Kd.C_below HR1_2.out HB.out)); (case side4 => exact HC1_2.out); rintro e w26 ⟨rfl, hb⟩; refine ⟨_, rfl, ?_⟩; replace BK19001 := Aside0.mk (bkb BK19001 hb); replace HB := Aside0.mk (below_step hbs hb); (try clear hb); (try clear hb2); (try clear hk); (try clear hi)))
  go_ret2
  exact ⟨_, erf, by first | exact Kd.R_nil _ _ _ _ _ | exact Kd.N_nil _ _ _ _ _ | exact Kd.V_nil _ _ _ _ _ | exact Kd.Q_nil _ _ _ _ _ | exact Kd.S_nil _ _ _ _ _, hbs⟩
end Go.Proofs.YteapbiiffcchbaaDoor.P
namespace Go.Proofs.YteapbiiffcchbaaDoor.G
open Go.RowKit Go.Proofs.YteapbiiffcchbaaDoorW.PrintWords Go.Proofs.YteapbiiffcchbaaDoorW.PrintLast Go.Proofs.YteapbiiffcchbaaDoorW.PrintMore Go.Proofs.YteapbiiffcchbaaDoor.P
set_option linter.unusedVariables false
def gtab1 : List S161 := (List.range 16).map fun i => ⟨((Lib.accLo i : Nat) : Int), ((Lib.accHi i : Nat) : Int)⟩
theorem rd_gtab1 (j : Int) (h0 : 0 ≤ j) (h1 : j < 16) : rd_T161 gtab1 j = ⟨((Lib.accLo j.toNat : Nat) : Int), ((Lib.accHi j.toNat : Nat) : Int)⟩ := by
  unfold rd_T161 gtab1
  rw [List.getD_eq_getElem?_getD, List.getElem?_map, List.getElem?_range (show j.toNat < 16 by omega)]
  rfl
theorem GTab.at1_0 {w : World} (h : GTab w) (j : Int) (h0 : 0 ≤ j) (h1 : j < 16) : w.cell? ⟨1, j.toNat * 2, none⟩ = some (.int .u8 (rd_T161 gtab1 j).f0) := by
  rw [rd_gtab1 j h0 h1, Nat.mul_comm]
  exact (h.out.2 j.toNat (by omega)).1
theorem GTab.at1_1 {w : World} (h : GTab w) (j : Int) (h0 : 0 ≤ j) (h1 : j < 16) : w.cell? ⟨1, j.toNat * 2 + 1, none⟩ = some (.int .u8 (rd_T161 gtab1 j).f1) := by
  rw [rd_gtab1 j h0 h1, Nat.mul_comm]
  exact (h.out.2 j.toNat (by omega)).2
end Go.Proofs.YteapbiiffcchbaaDoor.G
namespace Go.Proofs.YteapbiiffcchbaaDoor.P
open Go.Proofs.YteapbiiffcchbaaDoor.G
open Go.RowKit Go.Proofs.YteapbiiffcchbaaDoorW.PrintWords Go.Proofs.YteapbiiffcchbaaDoorW.PrintLast Go.Proofs.YteapbiiffcchbaaDoorW.PrintMore
attribute [local go_sem] max2_int min2_int max_two min_two max_three min_three max_four min_four
set_option linter.unusedVariables false
set_option linter.unusedSimpArgs false
def utf8_word_byte.f (l0 : List Int) : Option (Int) := if 0 < (l0.length : Int) then (if 1 < (l0.length : Int) then (if 2 < (l0.length : Int) then (if 3 < (l0.length : Int) then (if 4 < (l0.length : Int) then (if 5 < (l0.length : Int) then (if 6 < (l0.length : Int) then (if 7 < (l0.length : Int) then (some (Go.bits .or .u64 (Go.bits .or .u64 (Go.bits .or .u64 (Go.bits .or .u64 (Go.bits .or .u64 (Go.bits .or .u64 (Go.bits .or .u64 (IntKind.u64.wrap (rd l0 0)) (IntKind.u64.wrap ((IntKind.u64.wrap (rd l0 1)) * 256))) (IntKind.u64.wrap ((IntKind.u64.wrap (rd l0 2)) * 65536))) (IntKind.u64.wrap ((IntKind.u64.wrap (rd l0 3)) * 16777216))) (IntKind.u64.wrap ((IntKind.u64.wrap (rd l0 4)) * 4294967296))) (IntKind.u64.wrap ((IntKind.u64.wrap (rd l0 5)) * 1099511627776))) (IntKind.u64.wrap ((IntKind.u64.wrap (rd l0 6)) * 281474976710656))) (IntKind.u64.wrap ((IntKind.u64.wrap (rd l0 7)) * 72057594037927936)))) else (none)) else (none)) else (none)) else (none)) else (none)) else (none)) else (none)) else (none)
set_option maxHeartbeats 8000000 in
set_option maxRecDepth 100000 in
theorem utf8_word_byte.calls (A0 : Option Addr) (c0 : Nat) (l0 : List Int) (r : Int) (w : World) (hr0 : Kd.C (Kd.int .u8) w A0 l0.length l0) (hc0 : l0.length ≤ c0) (h : utf8_word_byte.f l0 = some r) :
  Calls Tryd.prog 149 #[.slice A0 l0.length c0] w fun e w' => e = .returned (.int .u64 r) ∧ Drawn0 w w' := by
 have HR0 := Aside0.mk hr0
 have HC0 := Aside0.mk hc0
 clear hr0 hc0
 have H : (if 0 < (l0.length : Int) then (if 1 < (l0.length : Int) then (if 2 < (l0.length : Int) then (if 3 < (l0.length : Int) then (if 4 < (l0.length : Int) then (if 5 < (l0.length : Int) then (if 6 < (l0.length : Int) then (if 7 < (l0.length : Int) then (some (Go.bits .or .u64 (Go.bits .or .u64 (Go.bits .or .u64 (Go.bits .or .u64 (Go.bits .or .u64 (Go.bits .or .u64 (Go.bits .or .u64 (IntKind.u64.wrap (rd l0 0)) (IntKind.u64.wrap ((IntKind.u64.wrap (rd l0 1)) * 256))) (IntKind.u64.wrap ((IntKind.u64.wrap (rd l0 2)) * 65536))) (IntKind.u64.wrap ((IntKind.u64.wrap (rd l0 3)) * 16777216))) (IntKind.u64.wrap ((IntKind.u64.wrap (rd l0 4)) * 4294967296))) (IntKind.u64.wrap ((IntKind.u64.wrap (rd l0 5)) * 1099511627776))) (IntKind.u64.wrap ((IntKind.u64.wrap (rd l0 6)) * 281474976710656))) (IntKind.u64.wrap ((IntKind.u64.wrap (rd l0 7)) * 72057594037927936)))) else (none)) else (none)) else (none)) else (none)) else (none)) else (none)) else (none)) else (none)) = some r := h
 clear h
 by_cases c2 : 0 < (l0.length : Int)
 ·rw [if_pos c2] at H
  have c2b0 : decide (0 < (l0.length : Int)) = true := decide_eq_true c2
  have c2b1 : decide (0 < l0.length) = true := decide_eq_true (by omega)
  clear c2
  by_cases c3 : 1 < (l0.length : Int)
  ·rw [if_pos c3] at H
   have c3b0 : decide (1 < (l0.length : Int)) = true := decide_eq_true c3
   have c3b1 : decide (1 < l0.length) = true := decide_eq_true (by omega)
   clear c3
   by_cases c4 : 2 < (l0.length : Int)
   ·rw [if_pos c4] at H
    have c4b0 : decide (2 < (l0.length : Int)) = true := decide_eq_true c4
    have c4b1 : decide (2 < l0.length) = true := decide_eq_true (by omega)
    clear c4
    by_cases c5 : 3 < (l0.length : Int)
    ·rw [if_pos c5] at H
     have c5b0 : decide (3 < (l0.length : Int)) = true := decide_eq_true c5
     have c5b1 : decide (3 < l0.length) = true := decide_eq_true (by omega)
     clear c5
     by_cases c6 : 4 < (l0.length : Int)
     ·rw [if_pos c6] at H
      have c6b0 : decide (4 < (l0.length : Int)) = true := decide_eq_true c6
      have c6b1 : decide (4 < l0.length) = true := decide_eq_true (by omega)
      clear c6
      by_cases c7 : 5 < (l0.length : Int)
      ·rw [if_pos c7] at H
       have c7b0 : decide (5 < (l0.length : Int)) = true := decide_eq_true c7
       have c7b1 : decide (5 < l0.length) = true := decide_eq_true (by omega)
       clear c7
       by_cases c8 : 6 < (l0.length : Int)
       ·rw [if_pos c8] at H
        have c8b0 : decide (6 < (l0.length : Int)) = true := decide_eq_true c8
        have c8b1 : decide (6 < l0.length) = true := decide_eq_true (by omega)
        clear c8
        by_cases c9 : 7 < (l0.length : Int)
        ·rw [if_pos c9] at H
         have c9b0 : decide (7 < (l0.length : Int)) = true := decide_eq_true c9
         have c9b1 : decide (7 < l0.length) = true := decide_eq_true (by omega)
         clear c9
         obtain rfl := Option.some.inj H
         have p150001 : 0 ≤ (0 : Int) := (by omega)
         have q150001 : 0 < (l0.length : Int) := odt
         obtain ⟨ad150001, e150001, hx150001_0⟩ := Kd.at_int HR0.out 0 p150001 q150001
         cases e150001
         have qi150001 : (0 < l0.length) = True := eq_true (by omega)
         (try rw [show ((0 : Int)).toNat = 0 from rfl] at hx150001_0)
         (try rw [Addr.add_zero'] at hx150001_0)
         replace p150001 := eq_true p150001
         replace q150001 := eq_true q150001
         have p150002 : 0 ≤ (1 : Int) := (by omega)
         have q150002 : 1 < (l0.length : Int) := odt
         obtain ⟨ad150002, e150002, hx150002_0⟩ := Kd.at_int HR0.out 1 p150002 q150002
         obtain rfl : ad150001 = ad150002 := (by injection e150002)
         (try simp only [show (1 : Int).toNat = 1 from rfl, Nat.reduceMul, Nat.reduceEqDiff, Go.Addr.add, ↓reduceIte] at hx150002_0)
         have qi150002 : (1 < l0.length) = True := eq_true (by omega)
         (try rw [show ((1 : Int)).toNat = 1 from rfl] at hx150002_0)
         replace p150002 := eq_true p150002
         replace q150002 := eq_true q150002
         have p150003 : 0 ≤ (2 : Int) := (by omega)
         have q150003 : 2 < (l0.length : Int) := odt
         obtain ⟨ad150003, e150003, hx150003_0⟩ := Kd.at_int HR0.out 2 p150003 q150003
         obtain rfl : ad150001 = ad150003 := (by injection e150003)
         (try simp only [show (2 : Int).toNat = 2 from rfl, Nat.reduceMul, Nat.reduceEqDiff, Go.Addr.add, ↓reduceIte] at hx150003_0)
         have qi150003 : (2 < l0.length) = True := eq_true (by omega)
         (try rw [show ((2 : Int)).toNat = 2 from rfl] at hx150003_0)
         replace p150003 := eq_true p150003
         replace q150003 := eq_true q150003
         have p150004 : 0 ≤ (3 : Int) := (by omega)
         have q150004 : 3 < (l0.length : Int) := odt
         obtain ⟨ad150004, e150004, hx150004_0⟩ := Kd.at_int HR0.out 3 p150004 q150004
         obtain rfl : ad150001 = ad150004 := (by injection e150004)
         (try simp only [show (3 : Int).toNat = 3 from rfl, Nat.reduceMul, Nat.reduceEqDiff, Go.Addr.add, ↓reduceIte] at hx150004_0)
         have qi150004 : (3 < l0.length) = True := eq_true (by omega)
         (try rw [show ((3 : Int)).toNat = 3 from rfl] at hx150004_0)
         replace p150004 := eq_true p150004
         replace q150004 := eq_true q150004
         have p150005 : 0 ≤ (4 : Int) := (by omega)
         have q150005 : 4 < (l0.length : Int) := odt
         obtain ⟨ad150005, e150005, hx150005_0⟩ := Kd.at_int HR0.out 4 p150005 q150005
         obtain rfl : ad150001 = ad150005 := (by injection e150005)
         (try simp only [show (4 : Int).toNat = 4 from rfl, Nat.reduceMul, Nat.reduceEqDiff, Go.Addr.add, ↓reduceIte] at hx150005_0)
         have qi150005 : (4 < l0.length) = True := eq_true (by omega)
         (try rw [show ((4 : Int)).toNat = 4 from rfl] at hx150005_0)
         replace p150005 := eq_true p150005
         replace q150005 := eq_true q150005
         have p150006 : 0 ≤ (5 : Int) := (by omega)
         have q150006 : 5 < (l0.length : Int) := odt
         obtain ⟨ad150006, e150006, hx150006_0⟩ := Kd.at_int HR0.out 5 p150006 q150006
         obtain rfl : ad150001 = ad150006 := (by injection e150006)
         (try simp only [show (5 : Int).toNat = 5 from rfl, Nat.reduceMul, Nat.reduceEqDiff, Go.Addr.add, ↓reduceIte] at hx150006_0)
         have qi150006 : (5 < l0.length) = True := eq_true (by omega)
         (try rw [show ((5 : Int)).toNat = 5 from rfl] at hx150006_0)
         replace p150006 := eq_true p150006
         replace q150006 := eq_true q150006
         have p150007 : 0 ≤ (6 : Int) := (by omega)
         have q150007 : 6 < (l0.length : Int) := odt
         obtain ⟨ad150007, e150007, hx150007_0⟩ := Kd.at_int HR0.out 6 p150007 q150007
         obtain rfl : ad150001 = ad150007 := (by injection e150007)
         (try simp only [show (6 : Int).toNat = 6 from rfl, Nat.reduceMul, Nat.reduceEqDiff, Go.Addr.add, ↓reduceIte] at hx150007_0)
         have qi150007 : (6 < l0.length) = True := eq_true (by omega)
         (try rw [show ((6 : Int)).toNat = 6 from rfl] at hx150007_0)
         replace p150007 := eq_true p150007
         replace q150007 := eq_true q150007
         have p150008 : 0 ≤ (7 : Int) := (by omega)
         have q150008 : 7 < (l0.length : Int) := odt
         obtain ⟨ad150008, e150008, hx150008_0⟩ := Kd.at_int HR0.out 7 p150008 q150008
         obtain rfl : ad150001 = ad150008 := (by injection e150008)
         (try simp only [show (7 : Int).toNat = 7 from rfl, Nat.reduceMul, Nat.reduceEqDiff, Go.Addr.add, ↓reduceIte] at hx150008_0)
         have qi150008 : (7 < l0.length) = True := eq_true (by omega)
         (try rw [show ((7 : Int)).toNat = 7 from rfl] at hx150008_0)
         replace p150008 := eq_true p150008
         replace q150008 := eq_true q150008
         go_enter Tryd.func149, Tryd.ntmps149
         go_wp2
         repeat (go_quiet (fail); try go_wp2)
         go_ret
         exact ⟨by first | rfl | (simp; done) | (simp [*]; done), by repeat (first | exact Drawn0.refl _ | apply Drawn0.step)⟩
        ·rw [if_neg c9] at H
         exact absurd H (by simp)
       ·rw [if_neg c8] at H
        exact absurd H (by simp)
      ·rw [if_neg c7] at H
       exact absurd H (by simp)
     ·rw [if_neg c6] at H
      exact absurd H (by simp)
    ·rw [if_neg c5] at H
     exact absurd H (by simp)
   ·rw [if_neg c4] at H
    exact absurd H (by simp)
  ·rw [if_neg c3] at H
   exact absurd H (by simp)
 ·rw [if_neg c2] at H
  exact absurd H (by simp)
end Go.Proofs.YteapbiiffcchbaaDoor.P
