/- The law FnEditsDo (applying a list of edits in two parts has the same effect as applying it at once) returns true for every input and leaves its input as it was; conditions: the two tables of unicode/utf8 hold what the program's text lays (tied by the card). Part 5 of 5: joined by a program of the session's (wip/pack.py) out of its own texts and of the printed words, without remarks and without what nothing names. Not trusted: Lean checks it. -/
import Derived.Test.YteapbiiffcchbaaDoorE4
import Derived.Lib.Bytes
import Derived.Lib.ValidAsc
import Derived.Laws.BitsAllLaws
import Derived.Lib.LaidIn
import Derived.Lib.LaidU8T
import Derived.Deep.DeepHandedRow
import Derived.Deep.DeepWitnessRowRef
import Derived.WalkKit
import Derived.ProofKit
import Derived.OpenShut
import Derived.ShutString
import Derived.ChangeOld
import Derived.Below
import Derived.SizedLaws
import Derived.SevenTiedAt
import Derived.Test.YteapbiiffcchbaaDoorRows
import Derived.Test.YteapbiiffcchbaaDoorTie
import Derived.Test.YteapbiiffcchbaaDoorCards
namespace Go.Proofs.YteapbiiffcchbaaDoor.P
open Go.Proofs.YteapbiiffcchbaaDoor.G
open Go.RowKit Go.Proofs.YteapbiiffcchbaaDoorW.PrintWords Go.Proofs.YteapbiiffcchbaaDoorW.PrintLast Go.Proofs.YteapbiiffcchbaaDoorW.PrintMore
attribute [local go_sem] max2_int min2_int max_two min_two max_three min_three max_four min_four
set_option linter.unusedVariables false
set_option linter.unusedSimpArgs false
def impl_isEdit.f (k : Nat) (l0 : List Int) (a1_0 : Int) (a1_1 : Int) (l1_2 : List Int) : Option (Bool) := (impl_isText.f k l0).bind fun t70002 => (if t70002 = true then ((impl_isCut.f l0 a1_0).bind fun t70003 => (if t70003 = true then ((impl_in.f a1_1 0 (wrap64 ((l0.length : Int) - a1_0))).bind fun t70004 => (if t70004 = true then ((impl_isCut.f l0 (wrap64 (a1_0 + a1_1))).bind fun t70005 => (if t70005 = true then ((impl_isText.f k l1_2).bind fun t70006 => (if t70006 = true then (some (decide ((wrap64 ((wrap64 ((l0.length : Int) - a1_1)) + (l1_2.length : Int))) ≤ 400))) else (some false))) else (some false))) else (some false))) else (some false))) else (some false))
set_option maxHeartbeats 8000000 in
set_option maxRecDepth 100000 in
theorem impl_isEdit.calls (k : Nat) (A0 : Option Addr) (c0 : Nat) (l0 : List Int) (a1_0 : Int) (a1_1 : Int) (A1_2 : Option Addr) (c1_2 : Nat) (l1_2 : List Int) (r : Bool) (w : World) (hr0 : Kd.C (Kd.int .u8) w A0 l0.length l0) (hc0 : l0.length ≤ c0) (hr1_2 : Kd.C (Kd.int .u8) w A1_2 l1_2.length l1_2) (hc1_2 : l1_2.length ≤ c1_2) (hG : GTab w) (h : impl_isEdit.f k l0 a1_0 a1_1 l1_2 = some r) :
  Calls Tryd.prog 69 #[.slice A0 l0.length c0, .agg #[.int .i64 a1_0, .int .i64 a1_1, .slice A1_2 l1_2.length c1_2]] w fun e w' => e = .returned (.bool r) ∧ Below w.heap.size w w' := by
 have hu25 := Tryd.underlying25
 have HR0 := Aside0.mk hr0
 have HC0 := Aside0.mk hc0
 clear hr0 hc0
 have HR1_2 := Aside0.mk hr1_2
 have HC1_2 := Aside0.mk hc1_2
 clear hr1_2 hc1_2
 have HB := Aside0.mk (Below.refl w.heap.size w)
 have H : ((impl_isText.f k l0).bind fun t70002 => (if t70002 = true then ((impl_isCut.f l0 a1_0).bind fun t70003 => (if t70003 = true then ((impl_in.f a1_1 0 (wrap64 ((l0.length : Int) - a1_0))).bind fun t70004 => (if t70004 = true then ((impl_isCut.f l0 (wrap64 (a1_0 + a1_1))).bind fun t70005 => (if t70005 = true then ((impl_isText.f k l1_2).bind fun t70006 => (if t70006 = true then (some (decide ((wrap64 ((wrap64 ((l0.length : Int) - a1_1)) + (l1_2.length : Int))) ≤ 400))) else (some false))) else (some false))) else (some false))) else (some false))) else (some false))) = some r := h
 clear h
 replace H := Option.bind_eq_some_iff.mp H
 obtain ⟨t70002, A30, H⟩ := H
 replace H : (if t70002 = true then ((impl_isCut.f l0 a1_0).bind fun t70003 => (if t70003 = true then ((impl_in.f a1_1 0 (wrap64 ((l0.length : Int) - a1_0))).bind fun t70004 => (if t70004 = true then ((impl_isCut.f l0 (wrap64 (a1_0 + a1_1))).bind fun t70005 => (if t70005 = true then ((impl_isText.f k l1_2).bind fun t70006 => (if t70006 = true then (some (decide ((wrap64 ((wrap64 ((l0.length : Int) - a1_1)) + (l1_2.length : Int))) ≤ 400))) else (some false))) else (some false))) else (some false))) else (some false))) else (some false)) = some r := H
 have A3 := Aside0.mk A30
 clear A30
 by_cases c4 : t70002 = true
 ·subst c4
  have H1 : ((impl_isCut.f l0 a1_0).bind fun t70003 => (if t70003 = true then ((impl_in.f a1_1 0 (wrap64 ((l0.length : Int) - a1_0))).bind fun t70004 => (if t70004 = true then ((impl_isCut.f l0 (wrap64 (a1_0 + a1_1))).bind fun t70005 => (if t70005 = true then ((impl_isText.f k l1_2).bind fun t70006 => (if t70006 = true then (some (decide ((wrap64 ((wrap64 ((l0.length : Int) - a1_1)) + (l1_2.length : Int))) ≤ 400))) else (some false))) else (some false))) else (some false))) else (some false))) = some r := by rw [if_pos rfl] at H; exact H
  clear H
  have H := H1
  clear H1
  replace H := Option.bind_eq_some_iff.mp H
  obtain ⟨t70003, A50, H⟩ := H
  replace H : (if t70003 = true then ((impl_in.f a1_1 0 (wrap64 ((l0.length : Int) - a1_0))).bind fun t70004 => (if t70004 = true then ((impl_isCut.f l0 (wrap64 (a1_0 + a1_1))).bind fun t70005 => (if t70005 = true then ((impl_isText.f k l1_2).bind fun t70006 => (if t70006 = true then (some (decide ((wrap64 ((wrap64 ((l0.length : Int) - a1_1)) + (l1_2.length : Int))) ≤ 400))) else (some false))) else (some false))) else (some false))) else (some false)) = some r := H
  have A5 := Aside0.mk A50
  clear A50
  by_cases c6 : t70003 = true
  ·subst c6
   have H1 : ((impl_in.f a1_1 0 (wrap64 ((l0.length : Int) - a1_0))).bind fun t70004 => (if t70004 = true then ((impl_isCut.f l0 (wrap64 (a1_0 + a1_1))).bind fun t70005 => (if t70005 = true then ((impl_isText.f k l1_2).bind fun t70006 => (if t70006 = true then (some (decide ((wrap64 ((wrap64 ((l0.length : Int) - a1_1)) + (l1_2.length : Int))) ≤ 400))) else (some false))) else (some false))) else (some false))) = some r := by rw [if_pos rfl] at H; exact H
   clear H
   have H := H1
   clear H1
   replace H := Option.bind_eq_some_iff.mp H
   obtain ⟨t70004, A70, H⟩ := H
   replace H : (if t70004 = true then ((impl_isCut.f l0 (wrap64 (a1_0 + a1_1))).bind fun t70005 => (if t70005 = true then ((impl_isText.f k l1_2).bind fun t70006 => (if t70006 = true then (some (decide ((wrap64 ((wrap64 ((l0.length : Int) - a1_1)) + (l1_2.length : Int))) ≤ 400))) else (some false))) else (some false))) else (some false)) = some r := H
   have A7 := Aside0.mk A70
   clear A70
   by_cases c8 : t70004 = true
   ·subst c8
    have H1 : ((impl_isCut.f l0 (wrap64 (a1_0 + a1_1))).bind fun t70005 => (if t70005 = true then ((impl_isText.f k l1_2).bind fun t70006 => (if t70006 = true then (some (decide ((wrap64 ((wrap64 ((l0.length : Int) - a1_1)) + (l1_2.length : Int))) ≤ 400))) else (some false))) else (some false))) = some r := by rw [if_pos rfl] at H; exact H
    clear H
    have H := H1
    clear H1
    replace H := Option.bind_eq_some_iff.mp H
    obtain ⟨t70005, A90, H⟩ := H
    replace H : (if t70005 = true then ((impl_isText.f k l1_2).bind fun t70006 => (if t70006 = true then (some (decide ((wrap64 ((wrap64 ((l0.length : Int) - a1_1)) + (l1_2.length : Int))) ≤ 400))) else (some false))) else (some false)) = some r := H
    have A9 := Aside0.mk A90
    clear A90
    by_cases c10 : t70005 = true
    ·subst c10
     have H1 : ((impl_isText.f k l1_2).bind fun t70006 => (if t70006 = true then (some (decide ((wrap64 ((wrap64 ((l0.length : Int) - a1_1)) + (l1_2.length : Int))) ≤ 400))) else (some false))) = some r := by rw [if_pos rfl] at H; exact H
     clear H
     have H := H1
     clear H1
     replace H := Option.bind_eq_some_iff.mp H
     obtain ⟨t70006, A110, H⟩ := H
     replace H : (if t70006 = true then (some (decide ((wrap64 ((wrap64 ((l0.length : Int) - a1_1)) + (l1_2.length : Int))) ≤ 400))) else (some false)) = some r := H
     have A11 := Aside0.mk A110
     clear A110
     by_cases c12 : t70006 = true
     ·subst c12
      have H1 : (some (decide ((wrap64 ((wrap64 ((l0.length : Int) - a1_1)) + (l1_2.length : Int))) ≤ 400))) = some r := by rw [if_pos rfl] at H; exact H
      clear H
      have H := H1
      clear H1
      obtain rfl := Option.some.inj H
      go_enter Tryd.func69, Tryd.ntmps69
      go_wp2_with (first | ((with_reducible refine gate_dst (N := 3) rfl ?_); (try (refine gate_guard (by rfl) ?_; dsimp only)); refine boxE 3 #[.int .i64 a1_0, .int .i64 a1_1, .slice A1_2 l1_2.length c1_2] 25 ?_; intro gb70001 hg w13 BK70001 hb; have GW70001 := Aside0.mk (gsz hg hbw : w.heap.size ≤ gb70001); have GE70001 := GW70001; replace HB := Aside0.mk (below_step hbw hb); clear hb hg) | ((with_reducible refine gate_callee (f := 76) rfl ?_); refine goesM (some 6) Tryd.func76 #[.slice A0 l0.length c0] ?_; (with_reducible refine (impl_isText.calls k _ _ l0 true _ ?side1 ?side2 ?side3 A3.out).mono ?_); (case side1 => exact cpl (Kd.C_below HR0.out HB.out)); (case side2 => exact HC0.out); (case side3 => exact GTab.below hG hbs); rintro e w14 ⟨rfl, hb⟩; refine ⟨_, rfl, ?_⟩; replace BK70001 := Aside0.mk (bkb BK70001 hb); replace HB := Aside0.mk (below_step hbs hb); (try clear hb); (try clear hb2); (try clear hk); (try clear hi); have hcz15_0 : w14.cell? ⟨gb70001, 0, none⟩ = some (.int .i64 a1_0) := (blk_cell BK70001.out 0).trans rfl; have hcz15_1 : w14.cell? ⟨gb70001, 1, none⟩ = some (.int .i64 a1_1) := (blk_cell BK70001.out 1).trans rfl; have hcz15_2 : w14.cell? ⟨gb70001, 2, none⟩ = some (.slice A1_2 l1_2.length c1_2) := (blk_cell BK70001.out 2).trans rfl; have hfz15_0 := blk_frozen BK70001.out 0; have hfz15_1 := blk_frozen BK70001.out 1; have hfz15_2 := blk_frozen BK70001.out 2) | (go_at_call 77; (with_reducible refine (impl_isCut.calls _ _ l0 a1_0 true _ ?side1 ?side2 A5.out).mono ?_); (case side1 => exact cpl (Kd.C_below HR0.out HB.out)); (case side2 => exact HC0.out); rintro e w' ⟨rfl, ⟨nd, rfl⟩⟩) | (go_at_call 123; (with_reducible refine (impl_in.calls a1_1 0 (wrap64 ((l0.length : Int) - a1_0)) true _ A7.out).mono ?_); rintro e w' ⟨rfl, ⟨nd, rfl⟩⟩) | (go_at_call 77; (with_reducible refine (impl_isCut.calls _ _ l0 (wrap64 (a1_0 + a1_1)) true _ ?side1 ?side2 A9.out).mono ?_); (case side1 => exact cpl (Kd.C_below HR0.out hbs)); (case side2 => exact HC0.out); rintro e w' ⟨rfl, ⟨nd, rfl⟩⟩) | (go_at_call 76; (with_reducible refine (impl_isText.calls k _ _ l1_2 true _ ?side1 ?side2 ?side3 A11.out).mono ?_); (case side1 => exact cpl (Kd.C_below HR1_2.out hbs)); (case side2 => exact HC1_2.out); (case side3 => exact GTab.below hG hbs); rintro e w16 ⟨rfl, hb⟩; replace BK70001 := Aside0.mk (bkb BK70001 hb); replace HB := Aside0.mk (below_step hbs hb); (try clear hb); (try clear hb2); (try clear hk); (try clear hi); have hcz17_0 : w16.cell? ⟨gb70001, 0, none⟩ = some (.int .i64 a1_0) := (blk_cell BK70001.out 0).trans rfl; have hcz17_1 : w16.cell? ⟨gb70001, 1, none⟩ = some (.int .i64 a1_1) := (blk_cell BK70001.out 1).trans rfl; have hcz17_2 : w16.cell? ⟨gb70001, 2, none⟩ = some (.slice A1_2 l1_2.length c1_2) := (blk_cell BK70001.out 2).trans rfl; have hfz17_0 := blk_frozen BK70001.out 0; have hfz17_1 := blk_frozen BK70001.out 1; have hfz17_2 := blk_frozen BK70001.out 2))
      go_ret
      exact ⟨erf, hbs⟩
     ·replace c12 := Bool.eq_false_iff.mpr c12
      subst c12
      have H1 : (some false) = some r := by rw [if_neg (show ¬ (false = true) by decide)] at H; exact H
      clear H
      have H := H1
      clear H1
      obtain rfl := Option.some.inj H
      go_enter Tryd.func69, Tryd.ntmps69
      go_wp2_with (first | ((with_reducible refine gate_dst (N := 3) rfl ?_); (try (refine gate_guard (by rfl) ?_; dsimp only)); refine boxE 3 #[.int .i64 a1_0, .int .i64 a1_1, .slice A1_2 l1_2.length c1_2] 25 ?_; intro gb70001 hg w18 BK70001 hb; have GW70001 := Aside0.mk (gsz hg hbw : w.heap.size ≤ gb70001); have GE70001 := GW70001; replace HB := Aside0.mk (below_step hbw hb); clear hb hg) | ((with_reducible refine gate_callee (f := 76) rfl ?_); refine goesM (some 6) Tryd.func76 #[.slice A0 l0.length c0] ?_; (with_reducible refine (impl_isText.calls k _ _ l0 true _ ?side1 ?side2 ?side3 A3.out).mono ?_); (case side1 => exact cpl (Kd.C_below HR0.out HB.out)); (case side2 => exact HC0.out); (case side3 => exact GTab.below hG hbs); rintro e w19 ⟨rfl, hb⟩; refine ⟨_, rfl, ?_⟩; replace BK70001 := Aside0.mk (bkb BK70001 hb); replace HB := Aside0.mk (below_step hbs hb); (try clear hb); (try clear hb2); (try clear hk); (try clear hi); have hcz20_0 : w19.cell? ⟨gb70001, 0, none⟩ = some (.int .i64 a1_0) := (blk_cell BK70001.out 0).trans rfl; have hcz20_1 : w19.cell? ⟨gb70001, 1, none⟩ = some (.int .i64 a1_1) := (blk_cell BK70001.out 1).trans rfl; have hcz20_2 : w19.cell? ⟨gb70001, 2, none⟩ = some (.slice A1_2 l1_2.length c1_2) := (blk_cell BK70001.out 2).trans rfl; have hfz20_0 := blk_frozen BK70001.out 0; have hfz20_1 := blk_frozen BK70001.out 1; have hfz20_2 := blk_frozen BK70001.out 2) | (go_at_call 77; (with_reducible refine (impl_isCut.calls _ _ l0 a1_0 true _ ?side1 ?side2 A5.out).mono ?_); (case side1 => exact cpl (Kd.C_below HR0.out HB.out)); (case side2 => exact HC0.out); rintro e w' ⟨rfl, ⟨nd, rfl⟩⟩) | (go_at_call 123; (with_reducible refine (impl_in.calls a1_1 0 (wrap64 ((l0.length : Int) - a1_0)) true _ A7.out).mono ?_); rintro e w' ⟨rfl, ⟨nd, rfl⟩⟩) | (go_at_call 77; (with_reducible refine (impl_isCut.calls _ _ l0 (wrap64 (a1_0 + a1_1)) true _ ?side1 ?side2 A9.out).mono ?_); (case side1 => exact cpl (Kd.C_below HR0.out hbs)); (case side2 => exact HC0.out); rintro e w' ⟨rfl, ⟨nd, rfl⟩⟩) | (go_at_call 76; (with_reducible refine (impl_isText.calls k _ _ l1_2 false _ ?side1 ?side2 ?side3 A11.out).mono ?_); (case side1 => exact cpl (Kd.C_below HR1_2.out hbs)); (case side2 => exact HC1_2.out); (case side3 => exact GTab.below hG hbs); rintro e w21 ⟨rfl, hb⟩; replace BK70001 := Aside0.mk (bkb BK70001 hb); replace HB := Aside0.mk (below_step hbs hb); (try clear hb); (try clear hb2); (try clear hk); (try clear hi)))
      go_ret
      exact ⟨erf, hbs⟩
    ·replace c10 := Bool.eq_false_iff.mpr c10
     subst c10
     have H1 : (some false) = some r := by rw [if_neg (show ¬ (false = true) by decide)] at H; exact H
     clear H
     have H := H1
     clear H1
     obtain rfl := Option.some.inj H
     go_enter Tryd.func69, Tryd.ntmps69
     go_wp2_with (first | ((with_reducible refine gate_dst (N := 3) rfl ?_); (try (refine gate_guard (by rfl) ?_; dsimp only)); refine boxE 3 #[.int .i64 a1_0, .int .i64 a1_1, .slice A1_2 l1_2.length c1_2] 25 ?_; intro gb70001 hg w22 BK70001 hb; have GW70001 := Aside0.mk (gsz hg hbw : w.heap.size ≤ gb70001); have GE70001 := GW70001; replace HB := Aside0.mk (below_step hbw hb); clear hb hg) | ((with_reducible refine gate_callee (f := 76) rfl ?_); refine goesM (some 6) Tryd.func76 #[.slice A0 l0.length c0] ?_; (with_reducible refine (impl_isText.calls k _ _ l0 true _ ?side1 ?side2 ?side3 A3.out).mono ?_); (case side1 => exact cpl (Kd.C_below HR0.out HB.out)); (case side2 => exact HC0.out); (case side3 => exact GTab.below hG hbs); rintro e w23 ⟨rfl, hb⟩; refine ⟨_, rfl, ?_⟩; replace BK70001 := Aside0.mk (bkb BK70001 hb); replace HB := Aside0.mk (below_step hbs hb); (try clear hb); (try clear hb2); (try clear hk); (try clear hi); have hcz24_0 : w23.cell? ⟨gb70001, 0, none⟩ = some (.int .i64 a1_0) := (blk_cell BK70001.out 0).trans rfl; have hcz24_1 : w23.cell? ⟨gb70001, 1, none⟩ = some (.int .i64 a1_1) := (blk_cell BK70001.out 1).trans rfl; have hcz24_2 : w23.cell? ⟨gb70001, 2, none⟩ = some (.slice A1_2 l1_2.length c1_2) := (blk_cell BK70001.out 2).trans rfl; have hfz24_0 := blk_frozen BK70001.out 0; have hfz24_1 := blk_frozen BK70001.out 1; have hfz24_2 := blk_frozen BK70001.out 2) | (go_at_call 77; (with_reducible refine (impl_isCut.calls _ _ l0 a1_0 true _ ?side1 ?side2 A5.out).mono ?_); (case side1 => exact cpl (Kd.C_below HR0.out HB.out)); (case side2 => exact HC0.out); rintro e w' ⟨rfl, ⟨nd, rfl⟩⟩) | (go_at_call 123; (with_reducible refine (impl_in.calls a1_1 0 (wrap64 ((l0.length : Int) - a1_0)) true _ A7.out).mono ?_); rintro e w' ⟨rfl, ⟨nd, rfl⟩⟩) | (go_at_call 77; (with_reducible refine (impl_isCut.calls _ _ l0 (wrap64 (a1_0 + a1_1)) false _ ?side1 ?side2 A9.out).mono ?_); (case side1 => exact cpl (Kd.C_below HR0.out hbs)); (case side2 => exact HC0.out); rintro e w' ⟨rfl, ⟨nd, rfl⟩⟩))
     go_ret
     exact ⟨erf, hbs⟩
   ·replace c8 := Bool.eq_false_iff.mpr c8
    subst c8
    have H1 : (some false) = some r := by rw [if_neg (show ¬ (false = true) by decide)] at H; exact H
    clear H
    have H := H1
    clear H1
    obtain rfl := Option.some.inj H
    go_enter Tryd.func69, Tryd.ntmps69
    go_wp2_with (first | ((with_reducible refine gate_dst (N := 3) rfl ?_); (try (refine gate_guard (by rfl) ?_; dsimp only)); refine boxE 3 #[.int .i64 a1_0, .int .i64 a1_1, .slice A1_2 l1_2.length c1_2] 25 ?_; intro gb70001 hg w25 BK70001 hb; have GW70001 := Aside0.mk (gsz hg hbw : w.heap.size ≤ gb70001); have GE70001 := GW70001; replace HB := Aside0.mk (below_step hbw hb); clear hb hg) | ((with_reducible refine gate_callee (f := 76) rfl ?_); refine goesM (some 6) Tryd.func76 #[.slice A0 l0.length c0] ?_; (with_reducible refine (impl_isText.calls k _ _ l0 true _ ?side1 ?side2 ?side3 A3.out).mono ?_); (case side1 => exact cpl (Kd.C_below HR0.out HB.out)); (case side2 => exact HC0.out); (case side3 => exact GTab.below hG hbs); rintro e w26 ⟨rfl, hb⟩; refine ⟨_, rfl, ?_⟩; replace BK70001 := Aside0.mk (bkb BK70001 hb); replace HB := Aside0.mk (below_step hbs hb); (try clear hb); (try clear hb2); (try clear hk); (try clear hi); have hcz27_0 : w26.cell? ⟨gb70001, 0, none⟩ = some (.int .i64 a1_0) := (blk_cell BK70001.out 0).trans rfl; have hcz27_1 : w26.cell? ⟨gb70001, 1, none⟩ = some (.int .i64 a1_1) := (blk_cell BK70001.out 1).trans rfl; have hcz27_2 : w26.cell? ⟨gb70001, 2, none⟩ = some (.slice A1_2 l1_2.length c1_2) := (blk_cell BK70001.out 2).trans rfl; have hfz27_0 := blk_frozen BK70001.out 0; have hfz27_1 := blk_frozen BK70001.out 1; have hfz27_2 := blk_frozen BK70001.out 2) | (go_at_call 77; (with_reducible refine (impl_isCut.calls _ _ l0 a1_0 true _ ?side1 ?side2 A5.out).mono ?_); (case side1 => exact cpl (Kd.C_below HR0.out HB.out)); (case side2 => exact HC0.out); rintro e w' ⟨rfl, ⟨nd, rfl⟩⟩) | (go_at_call 123; (with_reducible refine (impl_in.calls a1_1 0 (wrap64 ((l0.length : Int) - a1_0)) false _ A7.out).mono ?_); rintro e w' ⟨rfl, ⟨nd, rfl⟩⟩))
    go_ret
    exact ⟨erf, hbs⟩
  ·replace c6 := Bool.eq_false_iff.mpr c6
   subst c6
   have H1 : (some false) = some r := by rw [if_neg (show ¬ (false = true) by decide)] at H; exact H
   clear H
   have H := H1
   clear H1
   obtain rfl := Option.some.inj H
   go_enter Tryd.func69, Tryd.ntmps69
   go_wp2_with (first | ((with_reducible refine gate_dst (N := 3) rfl ?_); (try (refine gate_guard (by rfl) ?_; dsimp only)); refine boxE 3 #[.int .i64 a1_0, .int .i64 a1_1, .slice A1_2 l1_2.length c1_2] 25 ?_; intro gb70001 hg w28 BK70001 hb; have GW70001 := Aside0.mk (gsz hg hbw : w.heap.size ≤ gb70001); have GE70001 := GW70001; replace HB := Aside0.mk (below_step hbw hb); clear hb hg) | ((with_reducible refine gate_callee (f := 76) rfl ?_); refine goesM (some 6) Tryd.func76 #[.slice A0 l0.length c0] ?_; (with_reducible refine (impl_isText.calls k _ _ l0 true _ ?side1 ?side2 ?side3 A3.out).mono ?_); (case side1 => exact cpl (Kd.C_below HR0.out HB.out)); (case side2 => exact HC0.out); (case side3 => exact GTab.below hG hbs); rintro e w29 ⟨rfl, hb⟩; refine ⟨_, rfl, ?_⟩; replace BK70001 := Aside0.mk (bkb BK70001 hb); replace HB := Aside0.mk (below_step hbs hb); (try clear hb); (try clear hb2); (try clear hk); (try clear hi); have hcz30_0 : w29.cell? ⟨gb70001, 0, none⟩ = some (.int .i64 a1_0) := (blk_cell BK70001.out 0).trans rfl; have hcz30_1 : w29.cell? ⟨gb70001, 1, none⟩ = some (.int .i64 a1_1) := (blk_cell BK70001.out 1).trans rfl; have hcz30_2 : w29.cell? ⟨gb70001, 2, none⟩ = some (.slice A1_2 l1_2.length c1_2) := (blk_cell BK70001.out 2).trans rfl; have hfz30_0 := blk_frozen BK70001.out 0; have hfz30_1 := blk_frozen BK70001.out 1; have hfz30_2 := blk_frozen BK70001.out 2) | (go_at_call 77; (with_reducible refine (impl_isCut.calls _ _ l0 a1_0 false _ ?side1 ?side2 A5.out).mono ?_); (case side1 => exact cpl (Kd.C_below HR0.out HB.out)); (case side2 => exact HC0.out); rintro e w' ⟨rfl, ⟨nd, rfl⟩⟩))
   go_ret
   exact ⟨erf, hbs⟩
 ·replace c4 := Bool.eq_false_iff.mpr c4
  subst c4
  have H1 : (some false) = some r := by rw [if_neg (show ¬ (false = true) by decide)] at H; exact H
  clear H
  have H := H1
  clear H1
  obtain rfl := Option.some.inj H
  go_enter Tryd.func69, Tryd.ntmps69
  go_wp2_with (first | ((with_reducible refine gate_dst (N := 3) rfl ?_); (try (refine gate_guard (by rfl) ?_; dsimp only)); refine boxE 3 #[.int .i64 a1_0, .int .i64 a1_1, .slice A1_2 l1_2.length c1_2] 25 ?_; intro gb70001 hg w31 BK70001 hb; have GW70001 := Aside0.mk (gsz hg hbw : w.heap.size ≤ gb70001); have GE70001 := GW70001; replace HB := Aside0.mk (below_step hbw hb); clear hb hg) | ((with_reducible refine gate_callee (f := 76) rfl ?_); refine goesM (some 6) Tryd.func76 #[.slice A0 l0.length c0] ?_; (with_reducible refine (impl_isText.calls k _ _ l0 false _ ?side1 ?side2 ?side3 A3.out).mono ?_); (case side1 => exact cpl (Kd.C_below HR0.out HB.out)); (case side2 => exact HC0.out); (case side3 => exact GTab.below hG hbs); rintro e w32 ⟨rfl, hb⟩; refine ⟨_, rfl, ?_⟩; replace BK70001 := Aside0.mk (bkb BK70001 hb); replace HB := Aside0.mk (below_step hbs hb); (try clear hb); (try clear hb2); (try clear hk); (try clear hi)))
  go_ret
  exact ⟨erf, hbs⟩
def impl_EditsDo.l0 : Nat → List Int → Int → List (S25) → Int → Int → Option (List Int × Int)
 | 0, _, _, _, _, _ => none
 | k + 1, x6, x7, x15, x16, x17 => if x17 < x16 then (if 0 ≤ x17 then (if x17 < (x15.length : Int) then ((impl_isEdit.f k x6 ((rd_T25 x15 x17).f0) ((rd_T25 x15 x17).f1) ((rd_T25 x15 x17).f2)).bind fun t30007 => (if t30007 = true then ((impl_Edit_do.f k ((rd_T25 x15 x17).f0) ((rd_T25 x15 x17).f1) ((rd_T25 x15 x17).f2) x6).bind fun t30008 => (impl_EditsDo.l0 k t30008 (wrap64 (x7 + 1)) x15 x16 (wrap64 (x17 + 1)))) else (some (x6, x7)))) else (none)) else (none)) else (some (x6, x7))
def impl_EditsDo.f (k : Nat) (l0 : List Int) (l1 : List (S25)) : Option (List Int × Int) := (impl_isText.f k l0).bind fun t30001 => (if t30001 = true then ((slices_Clone_byte_byte.f l0).bind fun t30002 => (impl_EditsDo.l0 k t30002 0 l1 (l1.length : Int) 0)) else (some (([] : List Int), (-1))))
set_option maxHeartbeats 8000000 in
set_option maxRecDepth 100000 in
theorem impl_EditsDo.calls (k : Nat) (A0 : Option Addr) (c0 : Nat) (l0 : List Int) (A1 : Option Addr) (c1 : Nat) (l1 : List (S25)) (r1 : List Int) (r2 : Int) (w : World) (hr0 : Kd.C (Kd.int .u8) w A0 l0.length l0) (hc0 : l0.length ≤ c0) (hr1 : Kd.C k25 w A1 l1.length l1) (hc1 : l1.length ≤ c1) (hG : GTab w) (h : impl_EditsDo.f k l0 l1 = some (r1, r2)) :
  Calls Tryd.prog 29 #[.slice A0 l0.length c0, .slice A1 l1.length c1] w fun e w' => ∃ v0_ : Value, e = .returned (.tuple #[v0_, .int .i64 r2]) ∧ Kd.R (Kd.int .u8) 5 w' w.heap.size (fun _ => True) v0_ r1 ∧ Below w.heap.size w w' := by
 have hu25 := Tryd.underlying25
 have HR0 := Aside0.mk hr0
 have HC0 := Aside0.mk hc0
 clear hr0 hc0
 have HR1 := Aside0.mk hr1
 have HC1 := Aside0.mk hc1
 clear hr1 hc1
 have HB := Aside0.mk (Below.refl w.heap.size w)
 have H : ((impl_isText.f k l0).bind fun t30001 => (if t30001 = true then ((slices_Clone_byte_byte.f l0).bind fun t30002 => (impl_EditsDo.l0 k t30002 0 l1 (l1.length : Int) 0)) else (some (([] : List Int), (-1))))) = some (r1, r2) := h
 clear h
 replace H := Option.bind_eq_some_iff.mp H
 obtain ⟨t30001, A30, H⟩ := H
 replace H : (if t30001 = true then ((slices_Clone_byte_byte.f l0).bind fun t30002 => (impl_EditsDo.l0 k t30002 0 l1 (l1.length : Int) 0)) else (some (([] : List Int), (-1)))) = some (r1, r2) := H
 have A3 := Aside0.mk A30
 clear A30
 by_cases c4 : t30001 = true
 ·subst c4
  have H1 : ((slices_Clone_byte_byte.f l0).bind fun t30002 => (impl_EditsDo.l0 k t30002 0 l1 (l1.length : Int) 0)) = some (r1, r2) := by rw [if_pos rfl] at H; exact H
  clear H
  have H := H1
  clear H1
  replace H := Option.bind_eq_some_iff.mp H
  obtain ⟨t30002, A50, H⟩ := H
  replace H : (impl_EditsDo.l0 k t30002 0 l1 (l1.length : Int) 0) = some (r1, r2) := H
  have A5 := Aside0.mk A50
  clear A50
  have H' := Aside0.mk H
  clear H
  go_enter Tryd.func29, Tryd.ntmps29
  go_wp2_with (first | ((with_reducible refine gate_callee (f := 76) rfl ?_); refine goesM (some 11) Tryd.func76 #[.slice A0 l0.length c0] ?_; (with_reducible refine (impl_isText.calls k _ _ l0 true _ ?side1 ?side2 ?side3 A3.out).mono ?_); (case side1 => exact cpl HR0.out); (case side2 => exact HC0.out); (case side3 => exact GTab.below hG hbw); rintro e w6 ⟨rfl, hb⟩; refine ⟨_, rfl, ?_⟩; replace HB := Aside0.mk (below_step hbw hb); (try clear hb); (try clear hb2); (try clear hk); (try clear hi)) | ((with_reducible refine gate_callee (f := 83) rfl ?_); refine goesM (some 14) Tryd.func83 #[.slice A0 l0.length c0] ?_; (with_reducible refine (slices_Clone_byte_byte.calls _ _ l0 t30002 _ ?side1 ?side2 A5.out).mono ?_); (case side1 => exact cpl (Kd.C_below HR0.out HB.out)); (case side2 => exact HC0.out); rintro e w7 ⟨v30003, rfl, ho0, hb⟩; refine ⟨_, rfl, ?_⟩; have HO30004 := Aside0.mk (Kd.R_lower ho0 (below_size hbw)); replace HB := Aside0.mk (below_step hbw hb); (try clear hb); (try clear hb2); (try clear hk); (try clear hi); (try clear ho0)))
  go_loopg [6, 7, 17] k (fun kq v6 v7 v17 w' => ∃ (x6_1 : List Int) (x7_1 : Int) (x17_1 : Int), v7 = .int .i64 x7_1 ∧ v17 = .int .i64 x17_1 ∧ Aside0 (impl_EditsDo.l0 kq x6_1 x7_1 l1 (l1.length : Int) x17_1 = some (r1, r2)) ∧ Aside0 (kq ≤ k) ∧ Aside0 (Kd.R (Kd.int .u8) 5 w' w.heap.size (fun _ => True) v6 x6_1) ∧ Aside0 (Below w.heap.size w w'))
  case atStart => exact ⟨(t30002), (0), (0), rfs, rfs, H', ⟨Nat.le_refl _⟩, ⟨(hrnR HO30004)⟩, ⟨hbw⟩⟩
  case round =>
   clear H'
   try clear c1
   try clear c2
   try clear p2
   try clear c4
   try clear c7
   obtain ⟨x6_1, x7_1, x17_1, rfl, rfl, HA, HK1, HO_6, HB⟩ := hrel
   cases gk with
   | zero => exact absurd HA.out (by simp [impl_EditsDo.l0])
   | succ k1 =>
    have H := HA.out
    clear HA
    simp only [impl_EditsDo.l0] at H
    by_cases c8 : x17_1 < (l1.length : Int)
    ·rw [if_pos c8] at H
     have c8b0 : decide (x17_1 < (l1.length : Int)) = true := decide_eq_true c8
     clear c8
     by_cases c9 : 0 ≤ x17_1
     ·rw [if_pos c9] at H
      have c9b0 : decide (0 ≤ x17_1) = true := decide_eq_true c9
      clear c9
      by_cases c10 : x17_1 < (l1.length : Int)
      ·rw [if_pos c10] at H
       have c10b0 : decide (x17_1 < (l1.length : Int)) = true := decide_eq_true c10
       clear c10
       replace H := Option.bind_eq_some_iff.mp H
       obtain ⟨t30007, A110, H⟩ := H
       replace H : (if t30007 = true then ((impl_Edit_do.f k1 ((rd_T25 l1 x17_1).f0) ((rd_T25 l1 x17_1).f1) ((rd_T25 l1 x17_1).f2) x6_1).bind fun t30008 => (impl_EditsDo.l0 k1 t30008 (wrap64 (x7_1 + 1)) l1 (l1.length : Int) (wrap64 (x17_1 + 1)))) else (some (x6_1, x7_1))) = some (r1, r2) := H
       have A11 := Aside0.mk A110
       clear A110
       by_cases c12 : t30007 = true
       ·subst c12
        have H1 : ((impl_Edit_do.f k1 ((rd_T25 l1 x17_1).f0) ((rd_T25 l1 x17_1).f1) ((rd_T25 l1 x17_1).f2) x6_1).bind fun t30008 => (impl_EditsDo.l0 k1 t30008 (wrap64 (x7_1 + 1)) l1 (l1.length : Int) (wrap64 (x17_1 + 1)))) = some (r1, r2) := by rw [if_pos rfl] at H; exact H
        clear H
        have H := H1
        clear H1
        replace H := Option.bind_eq_some_iff.mp H
        obtain ⟨t30008, A130, H⟩ := H
        replace H : (impl_EditsDo.l0 k1 t30008 (wrap64 (x7_1 + 1)) l1 (l1.length : Int) (wrap64 (x17_1 + 1))) = some (r1, r2) := H
        have A13 := Aside0.mk A130
        clear A130
        have H' := Aside0.mk H
        clear H
        have p30005 : 0 ≤ (x17_1 : Int) := odt
        have q30005 : x17_1 < (l1.length : Int) := odt
        obtain ⟨ad30005, A30005_2, c30005_2, e30005, hx30005_0, hx30005_1, hx30005_2, hl30005_2, hi30005_2⟩ := at_T25 HR1.out x17_1 p30005 q30005
        cases e30005
        replace hx30005_0 := (HB.out.cell (World.block_lt_of_cell? w _ hx30005_0)).trans hx30005_0
        replace hx30005_1 := (HB.out.cell (World.block_lt_of_cell? w _ hx30005_1)).trans hx30005_1
        replace hx30005_2 := (HB.out.cell (World.block_lt_of_cell? w _ hx30005_2)).trans hx30005_2
        have HR30005_2 := Aside0.mk hi30005_2
        have HC30005_2 := Aside0.mk hl30005_2
        clear hi30005_2 hl30005_2
        replace p30005 := eq_true p30005
        replace q30005 := eq_true q30005
        go_wp2_with (first | ((with_reducible refine gate_dst (N := 9) rfl ?_); refine boxE 9 #[.int .i64 0, .int .i64 0, .slice none 0 0] 25 ?_; intro gb30006 hg w14 BK30006 hb; have GW30006 := Aside0.mk (gsz hg hbw : w.heap.size ≤ gb30006); have GE30006 := GW30006; replace HO_6 := Aside0.mk (Kd.R_below (hrnR HO_6) hb); replace HB := Aside0.mk (below_step hbw hb); clear hb hg; have hcz15_0 : w14.cell? ⟨gb30006, 0, none⟩ = some (.int .i64 0) := (blk_cell BK30006.out 0).trans rfl; have hcz15_1 : w14.cell? ⟨gb30006, 1, none⟩ = some (.int .i64 0) := (blk_cell BK30006.out 1).trans rfl; have hcz15_2 : w14.cell? ⟨gb30006, 2, none⟩ = some (.slice none 0 0) := (blk_cell BK30006.out 2).trans rfl; have hfz15_0 := blk_frozen BK30006.out 0; have hfz15_1 := blk_frozen BK30006.out 1; have hfz15_2 := blk_frozen BK30006.out 2; obtain ⟨Ao16, co16, eo16⟩ := Kd.R_slice HO_6.out; subst eo16) | ((with_reducible refine gate_callee (f := 69) rfl ?_); refine goesM (some 23) Tryd.func69 #[.slice Ao16 x6_1.length co16, .agg #[.int .i64 ((rd_T25 l1 x17_1).f0), .int .i64 ((rd_T25 l1 x17_1).f1), .slice A30005_2 ((rd_T25 l1 x17_1).f2).length c30005_2]] ?_; (with_reducible refine (impl_isEdit.calls k1 _ _ x6_1 ((rd_T25 l1 x17_1).f0) ((rd_T25 l1 x17_1).f1) _ _ ((rd_T25 l1 x17_1).f2) true _ ?side1 ?side2 ?side3 ?side4 ?side5 A11.out).mono ?_); (case side1 => refine (Kd.R_reads' (e := 5) (base := w.heap.size) (ok := fun k_ => True) (n := x6_1.length) (c := co16) ?_).2.2; exact (by (with_reducible repeat (first | apply Kd.R_alloc | apply Kd.R_drewN | apply Kd.R_drew)); exact (Kd.R_mono (Kd.R_far (p := ⟨gb30006, 2, none⟩) (Kd.R_far (p := ⟨gb30006, 1, none⟩) (Kd.R_far (p := ⟨gb30006, 0, none⟩) (Kd.R_types HO_6.out BK30006.out (by decide)) (fun _ hk => hk.2) (.int .i64 ((rd_T25 l1 x17_1).f0))) (fun _ hk => hk.2) (.int .i64 ((rd_T25 l1 x17_1).f1))) (fun _ hk => hk.2) (.slice A30005_2 ((rd_T25 l1 x17_1).f2).length c30005_2)) (fun _ h_ => h_.1)))); (case side2 => exact (Kd.R_reads' HO_6.out).2.1); (case side3 => exact Kd.C_below HR30005_2.out hbs); (case side4 => exact HC30005_2.out); (case side5 => exact GTab.below hG hbs); rintro e w17 ⟨rfl, hb⟩; refine ⟨_, rfl, ?_⟩; replace HO_6 := Aside0.mk (Kd.R_below (by (with_reducible repeat (first | apply Kd.R_alloc | apply Kd.R_drewN | apply Kd.R_drew)); exact (Kd.R_mono (Kd.R_far (p := ⟨gb30006, 2, none⟩) (Kd.R_far (p := ⟨gb30006, 1, none⟩) (Kd.R_far (p := ⟨gb30006, 0, none⟩) (Kd.R_types HO_6.out BK30006.out (by decide)) (fun _ hk => hk.2) (.int .i64 ((rd_T25 l1 x17_1).f0))) (fun _ hk => hk.2) (.int .i64 ((rd_T25 l1 x17_1).f1))) (fun _ hk => hk.2) (.slice A30005_2 ((rd_T25 l1 x17_1).f2).length c30005_2)) (fun _ h_ => h_.1))) hb); replace BK30006 := Aside0.mk (blk_below (g := gb30006) (o := .cells #[.int .i64 ((rd_T25 l1 x17_1).f0), .int .i64 ((rd_T25 l1 x17_1).f1), .slice A30005_2 ((rd_T25 l1 x17_1).f2).length c30005_2] 25 (0, 0)) (by refine pB ?_; refine blk_put (cs := #[.int .i64 ((rd_T25 l1 x17_1).f0), .int .i64 ((rd_T25 l1 x17_1).f1), .slice none 0 0]) ?_ 2 _ rfl; refine pB ?_; refine blk_put (cs := #[.int .i64 ((rd_T25 l1 x17_1).f0), .int .i64 0, .slice none 0 0]) ?_ 1 _ rfl; refine pB ?_; refine blk_put (cs := #[.int .i64 0, .int .i64 0, .slice none 0 0]) ?_ 0 _ rfl; refine pB ?_; exact BK30006.out) hb); replace HB := Aside0.mk (below_step hbs hb); (try clear hb); (try clear hb2); (try clear hk); (try clear hi); have hcz18_0 : w17.cell? ⟨gb30006, 0, none⟩ = some (.int .i64 ((rd_T25 l1 x17_1).f0)) := (blk_cell BK30006.out 0).trans rfl; have hcz18_1 : w17.cell? ⟨gb30006, 1, none⟩ = some (.int .i64 ((rd_T25 l1 x17_1).f1)) := (blk_cell BK30006.out 1).trans rfl; have hcz18_2 : w17.cell? ⟨gb30006, 2, none⟩ = some (.slice A30005_2 ((rd_T25 l1 x17_1).f2).length c30005_2) := (blk_cell BK30006.out 2).trans rfl; have hfz18_0 := blk_frozen BK30006.out 0; have hfz18_1 := blk_frozen BK30006.out 1; have hfz18_2 := blk_frozen BK30006.out 2) | ((with_reducible refine gate_callee (f := 68) rfl ?_); refine goesM (some 27) Tryd.func68 #[.agg #[.int .i64 ((rd_T25 l1 x17_1).f0), .int .i64 ((rd_T25 l1 x17_1).f1), .slice A30005_2 ((rd_T25 l1 x17_1).f2).length c30005_2], .slice Ao16 x6_1.length co16] ?_; (with_reducible refine (impl_Edit_do.calls k1 ((rd_T25 l1 x17_1).f0) ((rd_T25 l1 x17_1).f1) (fun k_ => k_ < w.heap.size) _ _ ((rd_T25 l1 x17_1).f2) (fun k_ => some k_ = (.slice Ao16 x6_1.length co16 : Value).ownBlock) _ _ x6_1 t30008 _ ?side1 ?side2 A13.out).mono ?_); (case side1 => exact Kd.V_mk HC30005_2.out (Kd.F_below (Kd.C_F (Kd.heap_int .u8) HR30005_2.out) hbs)); (case side2 => exact Kd.R_V (Kd.R_tight rfl (Kd.R_types (HO_6.out) BK30006.out (by decide)))); rintro e w19 ⟨v30009, rfl, ho0, hb⟩; refine ⟨_, rfl, ?_⟩; have HO30010 := Aside0.mk (Kd.R_lower (Kd.R_new' (Kd.R_mono (ok' := fun k_ => True) ho0 (fun _ hk_ => trivial)) (Kd.R_lt (hrnR HO_6))) (below_size hbs)); replace HO_6 := Aside0.mk (Kd.R_elder' (hrnR HO_6) (Kd.R_base ho0) hb); replace BK30006 := Aside0.mk (bkb BK30006 hb); replace HB := Aside0.mk (below_step hbs hb); (try clear hb); (try clear hb2); (try clear hk); (try clear hi); (try clear ho0)))
        go_roundg k1
        case measure => have := HK1.out; omega
        case rel => exact ⟨(t30008), (wrap64 (x7_1 + 1)), (wrap64 (x17_1 + 1)), rfs, rfs, H', ⟨by have := HK1.out; omega⟩, ⟨by (with_reducible repeat (first | apply Kd.R_alloc | apply Kd.R_drewN | apply Kd.R_drew)); exact Kd.R_mono HO30010.out (fun _ hk => trivial)⟩, ⟨hbs⟩⟩
       ·replace c12 := Bool.eq_false_iff.mpr c12
        subst c12
        have H1 : (some (x6_1, x7_1)) = some (r1, r2) := by rw [if_neg (show ¬ (false = true) by decide)] at H; exact H
        clear H
        have H := H1
        clear H1
        simp only [Option.some.injEq, Prod.mk.injEq] at H
        obtain ⟨rfl, rfl⟩ := H
        have p30005 : 0 ≤ (x17_1 : Int) := odt
        have q30005 : x17_1 < (l1.length : Int) := odt
        obtain ⟨ad30005, A30005_2, c30005_2, e30005, hx30005_0, hx30005_1, hx30005_2, hl30005_2, hi30005_2⟩ := at_T25 HR1.out x17_1 p30005 q30005
        cases e30005
        replace hx30005_0 := (HB.out.cell (World.block_lt_of_cell? w _ hx30005_0)).trans hx30005_0
        replace hx30005_1 := (HB.out.cell (World.block_lt_of_cell? w _ hx30005_1)).trans hx30005_1
        replace hx30005_2 := (HB.out.cell (World.block_lt_of_cell? w _ hx30005_2)).trans hx30005_2
        have HR30005_2 := Aside0.mk hi30005_2
        have HC30005_2 := Aside0.mk hl30005_2
        clear hi30005_2 hl30005_2
        replace p30005 := eq_true p30005
        replace q30005 := eq_true q30005
        go_wp2_with (first | ((with_reducible refine gate_dst (N := 9) rfl ?_); refine boxE 9 #[.int .i64 0, .int .i64 0, .slice none 0 0] 25 ?_; intro gb30006 hg w20 BK30006 hb; have GW30006 := Aside0.mk (gsz hg hbw : w.heap.size ≤ gb30006); have GE30006 := GW30006; replace HO_6 := Aside0.mk (Kd.R_below (hrnR HO_6) hb); replace HB := Aside0.mk (below_step hbw hb); clear hb hg; have hcz21_0 : w20.cell? ⟨gb30006, 0, none⟩ = some (.int .i64 0) := (blk_cell BK30006.out 0).trans rfl; have hcz21_1 : w20.cell? ⟨gb30006, 1, none⟩ = some (.int .i64 0) := (blk_cell BK30006.out 1).trans rfl; have hcz21_2 : w20.cell? ⟨gb30006, 2, none⟩ = some (.slice none 0 0) := (blk_cell BK30006.out 2).trans rfl; have hfz21_0 := blk_frozen BK30006.out 0; have hfz21_1 := blk_frozen BK30006.out 1; have hfz21_2 := blk_frozen BK30006.out 2; obtain ⟨Ao22, co22, eo22⟩ := Kd.R_slice HO_6.out; subst eo22) | ((with_reducible refine gate_callee (f := 69) rfl ?_); refine goesM (some 23) Tryd.func69 #[.slice Ao22 x6_1.length co22, .agg #[.int .i64 ((rd_T25 l1 x17_1).f0), .int .i64 ((rd_T25 l1 x17_1).f1), .slice A30005_2 ((rd_T25 l1 x17_1).f2).length c30005_2]] ?_; (with_reducible refine (impl_isEdit.calls k1 _ _ x6_1 ((rd_T25 l1 x17_1).f0) ((rd_T25 l1 x17_1).f1) _ _ ((rd_T25 l1 x17_1).f2) false _ ?side1 ?side2 ?side3 ?side4 ?side5 A11.out).mono ?_); (case side1 => refine (Kd.R_reads' (e := 5) (base := w.heap.size) (ok := fun k_ => True) (n := x6_1.length) (c := co22) ?_).2.2; exact (by (with_reducible repeat (first | apply Kd.R_alloc | apply Kd.R_drewN | apply Kd.R_drew)); exact (Kd.R_mono (Kd.R_far (p := ⟨gb30006, 2, none⟩) (Kd.R_far (p := ⟨gb30006, 1, none⟩) (Kd.R_far (p := ⟨gb30006, 0, none⟩) (Kd.R_types HO_6.out BK30006.out (by decide)) (fun _ hk => hk.2) (.int .i64 ((rd_T25 l1 x17_1).f0))) (fun _ hk => hk.2) (.int .i64 ((rd_T25 l1 x17_1).f1))) (fun _ hk => hk.2) (.slice A30005_2 ((rd_T25 l1 x17_1).f2).length c30005_2)) (fun _ h_ => h_.1)))); (case side2 => exact (Kd.R_reads' HO_6.out).2.1); (case side3 => exact Kd.C_below HR30005_2.out hbs); (case side4 => exact HC30005_2.out); (case side5 => exact GTab.below hG hbs); rintro e w23 ⟨rfl, hb⟩; refine ⟨_, rfl, ?_⟩; replace HO_6 := Aside0.mk (Kd.R_below (by (with_reducible repeat (first | apply Kd.R_alloc | apply Kd.R_drewN | apply Kd.R_drew)); exact (Kd.R_mono (Kd.R_far (p := ⟨gb30006, 2, none⟩) (Kd.R_far (p := ⟨gb30006, 1, none⟩) (Kd.R_far (p := ⟨gb30006, 0, none⟩) (Kd.R_types HO_6.out BK30006.out (by decide)) (fun _ hk => hk.2) (.int .i64 ((rd_T25 l1 x17_1).f0))) (fun _ hk => hk.2) (.int .i64 ((rd_T25 l1 x17_1).f1))) (fun _ hk => hk.2) (.slice A30005_2 ((rd_T25 l1 x17_1).f2).length c30005_2)) (fun _ h_ => h_.1))) hb); replace BK30006 := Aside0.mk (blk_below (g := gb30006) (o := .cells #[.int .i64 ((rd_T25 l1 x17_1).f0), .int .i64 ((rd_T25 l1 x17_1).f1), .slice A30005_2 ((rd_T25 l1 x17_1).f2).length c30005_2] 25 (0, 0)) (by refine pB ?_; refine blk_put (cs := #[.int .i64 ((rd_T25 l1 x17_1).f0), .int .i64 ((rd_T25 l1 x17_1).f1), .slice none 0 0]) ?_ 2 _ rfl; refine pB ?_; refine blk_put (cs := #[.int .i64 ((rd_T25 l1 x17_1).f0), .int .i64 0, .slice none 0 0]) ?_ 1 _ rfl; refine pB ?_; refine blk_put (cs := #[.int .i64 0, .int .i64 0, .slice none 0 0]) ?_ 0 _ rfl; refine pB ?_; exact BK30006.out) hb); replace HB := Aside0.mk (below_step hbs hb); (try clear hb); (try clear hb2); (try clear hk); (try clear hi)))
        go_ret2
        exact ⟨_, erf, (hrnR HO_6), hbs⟩
      ·rw [if_neg c10] at H
       exact absurd H (by simp)
     ·rw [if_neg c9] at H
      exact absurd H (by simp)
    ·rw [if_neg c8] at H
     have c8b0 : decide (x17_1 < (l1.length : Int)) = false := decide_eq_false c8
     clear c8
     simp only [Option.some.injEq, Prod.mk.injEq] at H
     obtain ⟨rfl, rfl⟩ := H
     go_wp2
     go_ret2
     exact ⟨_, erf, (hrnR HO_6), hbw⟩
 ·replace c4 := Bool.eq_false_iff.mpr c4
  subst c4
  have H1 : (some (([] : List Int), (-1))) = some (r1, r2) := by rw [if_neg (show ¬ (false = true) by decide)] at H; exact H
  clear H
  have H := H1
  clear H1
  simp only [Option.some.injEq, Prod.mk.injEq] at H
  obtain ⟨rfl, rfl⟩ := H
  go_enter Tryd.func29, Tryd.ntmps29
  go_wp2_with (first | ((with_reducible refine gate_callee (f := 76) rfl ?_); refine goesM (some 11) Tryd.func76 #[.slice A0 l0.length c0] ?_; (with_reducible refine (impl_isText.calls k _ _ l0 false _ ?side1 ?side2 ?side3 A3.out).mono ?_); (case side1 => exact cpl HR0.out); (case side2 => exact HC0.out); (case side3 => exact GTab.below hG hbw); rintro e w24 ⟨rfl, hb⟩; refine ⟨_, rfl, ?_⟩; replace HB := Aside0.mk (below_step hbw hb); (try clear hb); (try clear hb2); (try clear hk); (try clear hi)))
  go_ret2
  exact ⟨_, erf, by first | exact Kd.R_nil _ _ _ _ _ | exact Kd.N_nil _ _ _ _ _ | exact Kd.V_nil _ _ _ _ _ | exact Kd.Q_nil _ _ _ _ _ | exact Kd.S_nil _ _ _ _ _, hbw⟩
mutual
def laws_FnEditsDo.j0 : Nat → List Int → List Int → List (S25) → List Int → Int → List Int → Int → Bool → Option (Bool)
 | 0, _, _, _, _, _, _, _, _ => none
 | k + 1, x0, x3, x4, x5, x6, x7, x8, x46 => if x46 = true then (if x8 = x6 then (some ((strOfNums x7).toList == (strOfNums x5).toList)) else (some false)) else ((laws_pick.f k x0 3 (wrap64 (x8 + 1))).bind fun t6016 => (if 0 ≤ t6016 then (if t6016 ≤ (x4.length : Int) then ((impl_EditsDo.f k x3 (x4.take (t6016 : Int).toNat)).bind fun bt6022 => ((impl_EditsDo.f k bt6022.1 (x4.drop (t6016 : Int).toNat)).bind fun bt6031 => (if bt6022.2 = t6016 then (if bt6031.2 = (wrap64 (x8 - t6016)) then (laws_FnEditsDo.j1 k ((strOfNums bt6031.1).toList == (strOfNums x7).toList)) else (laws_FnEditsDo.j1 k false)) else (laws_FnEditsDo.j1 k false)))) else (none)) else (none)))
def laws_FnEditsDo.j1 : Nat → Bool → Option (Bool)
 | 0, _ => none
 | k + 1, x2 => some x2
end
def laws_FnEditsDo.f (k : Nat) (l0 : List Int) : Option (Bool) := (laws_big.f l0).bind fun t6001 => (if t6001 = true then (some true) else ((spec_DrawEditsDo.f k l0).bind fun bt6002 => ((spec_EditsDo.f k bt6002.1 bt6002.2).bind fun bt6008 => ((impl_EditsDo.f k bt6002.1 bt6002.2).bind fun bt6012 => (if bt6012.2 = bt6008.2 then (if (strOfNums bt6012.1).toList = (strOfNums bt6008.1).toList then (laws_FnEditsDo.j0 k l0 bt6002.1 bt6002.2 bt6008.1 bt6008.2 bt6012.1 bt6012.2 (decide (bt6012.2 < 0))) else (laws_FnEditsDo.j0 k l0 bt6002.1 bt6002.2 bt6008.1 bt6008.2 bt6012.1 bt6012.2 true)) else (laws_FnEditsDo.j0 k l0 bt6002.1 bt6002.2 bt6008.1 bt6008.2 bt6012.1 bt6012.2 true))))))
set_option maxHeartbeats 8000000 in
set_option maxRecDepth 100000 in
theorem laws_FnEditsDo.calls (k : Nat) (A0 : Option Addr) (c0 : Nat) (l0 : List Int) (r : Bool) (w : World) (hr0 : Kd.C (Kd.int .u8) w A0 l0.length l0) (hc0 : l0.length ≤ c0) (hG : GTab w) (h : laws_FnEditsDo.f k l0 = some r) :
  Calls Tryd.prog 5 #[.slice A0 l0.length c0] w fun e w' => e = .returned (.bool r) ∧ Below w.heap.size w w' := by
 have HR0 := Aside0.mk hr0
 have HC0 := Aside0.mk hc0
 clear hr0 hc0
 have HB := Aside0.mk (Below.refl w.heap.size w)
 have H : ((laws_big.f l0).bind fun t6001 => (if t6001 = true then (some true) else ((spec_DrawEditsDo.f k l0).bind fun bt6002 => ((spec_EditsDo.f k bt6002.1 bt6002.2).bind fun bt6008 => ((impl_EditsDo.f k bt6002.1 bt6002.2).bind fun bt6012 => (if bt6012.2 = bt6008.2 then (if (strOfNums bt6012.1).toList = (strOfNums bt6008.1).toList then (laws_FnEditsDo.j0 k l0 bt6002.1 bt6002.2 bt6008.1 bt6008.2 bt6012.1 bt6012.2 (decide (bt6012.2 < 0))) else (laws_FnEditsDo.j0 k l0 bt6002.1 bt6002.2 bt6008.1 bt6008.2 bt6012.1 bt6012.2 true)) else (laws_FnEditsDo.j0 k l0 bt6002.1 bt6002.2 bt6008.1 bt6008.2 bt6012.1 bt6012.2 true))))))) = some r := h
 clear h
 replace H := Option.bind_eq_some_iff.mp H
 obtain ⟨t6001, A20, H⟩ := H
 replace H : (if t6001 = true then (some true) else ((spec_DrawEditsDo.f k l0).bind fun bt6002 => ((spec_EditsDo.f k bt6002.1 bt6002.2).bind fun bt6008 => ((impl_EditsDo.f k bt6002.1 bt6002.2).bind fun bt6012 => (if bt6012.2 = bt6008.2 then (if (strOfNums bt6012.1).toList = (strOfNums bt6008.1).toList then (laws_FnEditsDo.j0 k l0 bt6002.1 bt6002.2 bt6008.1 bt6008.2 bt6012.1 bt6012.2 (decide (bt6012.2 < 0))) else (laws_FnEditsDo.j0 k l0 bt6002.1 bt6002.2 bt6008.1 bt6008.2 bt6012.1 bt6012.2 true)) else (laws_FnEditsDo.j0 k l0 bt6002.1 bt6002.2 bt6008.1 bt6008.2 bt6012.1 bt6012.2 true)))))) = some r := H
 have A2 := Aside0.mk A20
 clear A20
 by_cases c3 : t6001 = true
 ·subst c3
  have H1 : (some true) = some r := by rw [if_pos rfl] at H; exact H
  clear H
  have H := H1
  clear H1
  obtain rfl := Option.some.inj H
  go_enter Tryd.func5, Tryd.ntmps5
  go_wp2_with (first | ((with_reducible refine gate_callee (f := 12) rfl ?_); refine goesM (some 15) Tryd.func12 #[.slice A0 l0.length c0] ?_; (with_reducible refine (laws_big.calls _ _ l0 true _ ?side1 ?side2 A2.out).mono ?_); (case side1 => exact cpl HR0.out); (case side2 => exact HC0.out); rintro e w' ⟨rfl, ⟨nd, rfl⟩⟩; refine ⟨_, rfl, ?_⟩))
  go_ret
  exact ⟨erf, hbw⟩
 ·replace c3 := Bool.eq_false_iff.mpr c3
  subst c3
  have H1 : ((spec_DrawEditsDo.f k l0).bind fun bt6002 => ((spec_EditsDo.f k bt6002.1 bt6002.2).bind fun bt6008 => ((impl_EditsDo.f k bt6002.1 bt6002.2).bind fun bt6012 => (if bt6012.2 = bt6008.2 then (if (strOfNums bt6012.1).toList = (strOfNums bt6008.1).toList then (laws_FnEditsDo.j0 k l0 bt6002.1 bt6002.2 bt6008.1 bt6008.2 bt6012.1 bt6012.2 (decide (bt6012.2 < 0))) else (laws_FnEditsDo.j0 k l0 bt6002.1 bt6002.2 bt6008.1 bt6008.2 bt6012.1 bt6012.2 true)) else (laws_FnEditsDo.j0 k l0 bt6002.1 bt6002.2 bt6008.1 bt6008.2 bt6012.1 bt6012.2 true))))) = some r := by rw [if_neg (show ¬ (false = true) by decide)] at H; exact H
  clear H
  have H := H1
  clear H1
  replace H := Option.bind_eq_some_iff.mp H
  obtain ⟨⟨t6002, t6005⟩, A40, H⟩ := H
  replace H : ((spec_EditsDo.f k t6002 t6005).bind fun bt6008 => ((impl_EditsDo.f k t6002 t6005).bind fun bt6012 => (if bt6012.2 = bt6008.2 then (if (strOfNums bt6012.1).toList = (strOfNums bt6008.1).toList then (laws_FnEditsDo.j0 k l0 t6002 t6005 bt6008.1 bt6008.2 bt6012.1 bt6012.2 (decide (bt6012.2 < 0))) else (laws_FnEditsDo.j0 k l0 t6002 t6005 bt6008.1 bt6008.2 bt6012.1 bt6012.2 true)) else (laws_FnEditsDo.j0 k l0 t6002 t6005 bt6008.1 bt6008.2 bt6012.1 bt6012.2 true)))) = some r := H
  have A4 := Aside0.mk A40
  clear A40
  replace H := Option.bind_eq_some_iff.mp H
  obtain ⟨⟨t6008, t6009⟩, A50, H⟩ := H
  replace H : ((impl_EditsDo.f k t6002 t6005).bind fun bt6012 => (if bt6012.2 = t6009 then (if (strOfNums bt6012.1).toList = (strOfNums t6008).toList then (laws_FnEditsDo.j0 k l0 t6002 t6005 t6008 t6009 bt6012.1 bt6012.2 (decide (bt6012.2 < 0))) else (laws_FnEditsDo.j0 k l0 t6002 t6005 t6008 t6009 bt6012.1 bt6012.2 true)) else (laws_FnEditsDo.j0 k l0 t6002 t6005 t6008 t6009 bt6012.1 bt6012.2 true))) = some r := H
  have A5 := Aside0.mk A50
  clear A50
  replace H := Option.bind_eq_some_iff.mp H
  obtain ⟨⟨t6012, t6013⟩, A60, H⟩ := H
  replace H : (if t6013 = t6009 then (if (strOfNums t6012).toList = (strOfNums t6008).toList then (laws_FnEditsDo.j0 k l0 t6002 t6005 t6008 t6009 t6012 t6013 (decide (t6013 < 0))) else (laws_FnEditsDo.j0 k l0 t6002 t6005 t6008 t6009 t6012 t6013 true)) else (laws_FnEditsDo.j0 k l0 t6002 t6005 t6008 t6009 t6012 t6013 true)) = some r := H
  have A6 := Aside0.mk A60
  clear A60
  have HC7 := Aside0.mk H
  clear H
  go_enter Tryd.func5, Tryd.ntmps5
  go_upto_region 6 with (first | ((with_reducible refine gate_callee (f := 12) rfl ?_); refine goesM (some 15) Tryd.func12 #[.slice A0 l0.length c0] ?_; (with_reducible refine (laws_big.calls _ _ l0 false _ ?side1 ?side2 A2.out).mono ?_); (case side1 => exact cpl HR0.out); (case side2 => exact HC0.out); rintro e w' ⟨rfl, ⟨nd, rfl⟩⟩; refine ⟨_, rfl, ?_⟩) | ((with_reducible refine gate_callee (f := 27) rfl ?_); refine goesM (some 18) Tryd.func27 #[.slice A0 l0.length c0] ?_; (with_reducible refine (spec_DrawEditsDo.calls k _ _ l0 t6002 t6005 _ ?side1 ?side2 A4.out).mono ?_); (case side1 => exact cpl HR0.out); (case side2 => exact HC0.out); rintro e w8 ⟨v6003, v6006, rfl, ho0, ho1, hb⟩; refine ⟨_, rfl, ?_⟩; have HO6004 := Aside0.mk (Kd.R_lower (Kd.R_mono (ok' := fun k_ => True) ho0 (fun _ hk_ => trivial)) (below_size hbw)); have HO6007 := Aside0.mk (Kd.N_lower (Kd.N_mono (ok' := fun k_ => some k_ ≠ (v6003 : Value).ownBlock) ho1 (fun k_ hk_ => hk_.2)) (below_size hbw)); replace HB := Aside0.mk (below_step hbw hb); (try clear hb); (try clear hb2); (try clear hk); (try clear hi); (try clear ho0); (try clear ho1); obtain ⟨Ao9, co9, eo9⟩ := Kd.R_slice HO6004.out; subst eo9; obtain ⟨Ao10, co10, eo10⟩ := Kd.N_slice HO6007.out; subst eo10) | ((with_reducible refine gate_callee (f := 28) rfl ?_); refine goesM (some 24) Tryd.func28 #[.slice Ao9 t6002.length co9, .slice Ao10 t6005.length co10] ?_; (with_reducible refine (spec_EditsDo.calls k _ _ t6002 _ _ t6005 t6008 t6009 _ ?side1 ?side2 ?side3 ?side4 A5.out).mono ?_); (case side1 => exact cpl (Kd.R_reads' HO6004.out).2.2); (case side2 => exact (Kd.R_reads' HO6004.out).2.1); (case side3 => exact cpl (Kd.N_reads' HO6007.out).2.2); (case side4 => exact (Kd.N_reads' HO6007.out).2.1); rintro e w11 ⟨v6010, rfl, ho0, hb⟩; refine ⟨_, rfl, ?_⟩; have HO6011 := Aside0.mk (Kd.R_lower (Kd.R_new' ho0 (Kd.R_lt (hrnR HO6004))) (below_size hbw)); replace HO6004 := Aside0.mk (Kd.R_elder' (hrnR HO6004) (Kd.R_base ho0) hb); replace HO6007 := Aside0.mk (Kd.N_elder' (hrnN HO6007) (Kd.R_base ho0) hb); replace HB := Aside0.mk (below_step hbw hb); (try clear hb); (try clear hb2); (try clear hk); (try clear hi); (try clear ho0)) | ((with_reducible refine gate_callee (f := 29) rfl ?_); refine goesM (some 30) Tryd.func29 #[.slice Ao9 t6002.length co9, .slice Ao10 t6005.length co10] ?_; (with_reducible refine (impl_EditsDo.calls k _ _ t6002 _ _ t6005 t6012 t6013 _ ?side1 ?side2 ?side3 ?side4 ?side5 A6.out).mono ?_); (case side1 => exact cpl (Kd.R_reads' HO6004.out).2.2); (case side2 => exact (Kd.R_reads' HO6004.out).2.1); (case side3 => exact cpl (Kd.N_reads' HO6007.out).2.2); (case side4 => exact (Kd.N_reads' HO6007.out).2.1); (case side5 => exact GTab.below hG hbw); rintro e w12 ⟨v6014, rfl, ho0, hb⟩; refine ⟨_, rfl, ?_⟩; have HO6015 := Aside0.mk (Kd.R_lower (Kd.R_new' (Kd.R_new' ho0 (Kd.R_lt (hrnR HO6004))) (Kd.R_lt (hrnR HO6011))) (below_size hbw)); replace HO6004 := Aside0.mk (Kd.R_elder' (hrnR HO6004) (Kd.R_base ho0) hb); replace HO6007 := Aside0.mk (Kd.N_elder' (hrnN HO6007) (Kd.R_base ho0) hb); replace HO6011 := Aside0.mk (Kd.R_elder' (hrnR HO6011) (Kd.R_base ho0) hb); replace HB := Aside0.mk (below_step hbw hb); (try clear hb); (try clear hb2); (try clear hk); (try clear hi); (try clear ho0)))
  (try simp only [Act.put, List.setIfInBounds_toArray, List.set_cons_zero, List.set_cons_succ])
  go_cut [46] (fun v46 wc => ∃ (kq : Nat) (x46_6 : Bool), v46 = .bool x46_6 ∧ Aside0 (laws_FnEditsDo.j0 kq l0 t6002 t6005 t6008 t6009 t6012 t6013 x46_6 = some r) ∧ Aside0 (kq ≤ k) ∧ Aside0 (Kd.R (Kd.int .u8) 5 wc w.heap.size (fun k_ => some k_ ≠ (v6010 : Value).ownBlock ∧ some k_ ≠ (v6014 : Value).ownBlock) (.slice Ao9 t6002.length co9) t6002) ∧ Aside0 (Kd.N k25 25 wc w.heap.size (fun k_ => some k_ ≠ ((.slice Ao9 t6002.length co9) : Value).ownBlock ∧ some k_ ≠ (v6010 : Value).ownBlock ∧ some k_ ≠ (v6014 : Value).ownBlock) (.slice Ao10 t6005.length co10) t6005) ∧ Aside0 (Kd.R (Kd.int .u8) 5 wc w.heap.size (fun k_ => some k_ ≠ ((.slice Ao9 t6002.length co9) : Value).ownBlock ∧ some k_ ≠ (v6014 : Value).ownBlock) v6010 t6008) ∧ Aside0 (Kd.R (Kd.int .u8) 5 wc w.heap.size (fun k_ => some k_ ≠ ((.slice Ao9 t6002.length co9) : Value).ownBlock ∧ some k_ ≠ (v6010 : Value).ownBlock) v6014 t6012) ∧ Aside0 (Below w.heap.size w wc))
  case first =>
   have H := HC7.out
   clear HC7
   by_cases c13 : t6013 = t6009
   ·rw [if_pos c13] at H
    have c13b0 : (t6013 == t6009) = true := beq_iff_eq.mpr c13
    have c13b1 : (t6013 != t6009) = false := bne_eq_false_iff_eq.mpr c13
    clear c13
    (first | rw [c13b0] | (simp only [i64_w, i32_w]; rw [c13b0]) | skip)
    by_cases c14 : (strOfNums t6012).toList = (strOfNums t6008).toList
    ·rw [if_pos c14] at H
     have c14b0 : ((strOfNums t6012).toList == (strOfNums t6008).toList) = true := beq_iff_eq.mpr c14
     have c14b1 : ((strOfNums t6012).toList != (strOfNums t6008).toList) = false := bne_eq_false_iff_eq.mpr c14
     clear c14
     have H' := Aside0.mk H
     clear H
     have hcv15 := own_string (P := Tryd.prog) Tryd.underlying22 Tryd.underlying5 Tryd.underlying9 (Kd.own_of_R HO6015.out)
     have hcv16 := own_string (P := Tryd.prog) Tryd.underlying22 Tryd.underlying5 Tryd.underlying9 (Kd.own_of_R HO6011.out)
     go_wp2
     go_meet
     case rel => exact ⟨_, (decide (t6013 < 0)), rfs, H', ⟨by first | omega | exact Nat.le_refl _⟩, ⟨by (with_reducible repeat (first | apply Kd.R_alloc | apply Kd.R_drewN | apply Kd.R_drew)); exact Kd.R_mono HO6004.out (fun _ hk => ⟨hk.1.2, hk.2⟩)⟩, ⟨by (with_reducible repeat (first | apply Kd.N_alloc | apply Kd.N_drewN | apply Kd.N_drew)); exact Kd.N_mono HO6007.out (fun _ hk => ⟨hk.1.1, ⟨hk.1.2, hk.2⟩⟩)⟩, ⟨by (with_reducible repeat (first | apply Kd.R_alloc | apply Kd.R_drewN | apply Kd.R_drew)); exact Kd.R_mono HO6011.out (fun _ hk => ⟨hk.1.2, hk.2⟩)⟩, ⟨by (with_reducible repeat (first | apply Kd.R_alloc | apply Kd.R_drewN | apply Kd.R_drew)); exact Kd.R_mono HO6015.out (fun _ hk => ⟨hk.1.2, hk.2⟩)⟩, ⟨hbw⟩⟩
    ·rw [if_neg c14] at H
     have c14b0 : ((strOfNums t6012).toList == (strOfNums t6008).toList) = false := beq_eq_false_iff_ne.mpr c14
     have c14b1 : ((strOfNums t6012).toList != (strOfNums t6008).toList) = true := bne_iff_ne.mpr c14
     have H' := Aside0.mk H
     clear H
     have hcv17 := own_string (P := Tryd.prog) Tryd.underlying22 Tryd.underlying5 Tryd.underlying9 (Kd.own_of_R HO6015.out)
     have hcv18 := own_string (P := Tryd.prog) Tryd.underlying22 Tryd.underlying5 Tryd.underlying9 (Kd.own_of_R HO6011.out)
     go_wp2
     go_meet
     case rel => exact ⟨_, (true), rfs, H', ⟨by first | omega | exact Nat.le_refl _⟩, ⟨by (with_reducible repeat (first | apply Kd.R_alloc | apply Kd.R_drewN | apply Kd.R_drew)); exact Kd.R_mono HO6004.out (fun _ hk => ⟨hk.1.2, hk.2⟩)⟩, ⟨by (with_reducible repeat (first | apply Kd.N_alloc | apply Kd.N_drewN | apply Kd.N_drew)); exact Kd.N_mono HO6007.out (fun _ hk => ⟨hk.1.1, ⟨hk.1.2, hk.2⟩⟩)⟩, ⟨by (with_reducible repeat (first | apply Kd.R_alloc | apply Kd.R_drewN | apply Kd.R_drew)); exact Kd.R_mono HO6011.out (fun _ hk => ⟨hk.1.2, hk.2⟩)⟩, ⟨by (with_reducible repeat (first | apply Kd.R_alloc | apply Kd.R_drewN | apply Kd.R_drew)); exact Kd.R_mono HO6015.out (fun _ hk => ⟨hk.1.2, hk.2⟩)⟩, ⟨hbw⟩⟩
   ·rw [if_neg c13] at H
    have c13b0 : (t6013 == t6009) = false := beq_eq_false_iff_ne.mpr c13
    have c13b1 : (t6013 != t6009) = true := bne_iff_ne.mpr c13
    (first | rw [c13b0] | (simp only [i64_w, i32_w]; rw [c13b0]) | skip)
    have H' := Aside0.mk H
    clear H
    go_wp2
    go_meet
    case rel => exact ⟨_, (true), rfs, H', ⟨by first | omega | exact Nat.le_refl _⟩, ⟨by (with_reducible repeat (first | apply Kd.R_alloc | apply Kd.R_drewN | apply Kd.R_drew)); exact Kd.R_mono HO6004.out (fun _ hk => ⟨hk.1.2, hk.2⟩)⟩, ⟨by (with_reducible repeat (first | apply Kd.N_alloc | apply Kd.N_drewN | apply Kd.N_drew)); exact Kd.N_mono HO6007.out (fun _ hk => ⟨hk.1.1, ⟨hk.1.2, hk.2⟩⟩)⟩, ⟨by (with_reducible repeat (first | apply Kd.R_alloc | apply Kd.R_drewN | apply Kd.R_drew)); exact Kd.R_mono HO6011.out (fun _ hk => ⟨hk.1.2, hk.2⟩)⟩, ⟨by (with_reducible repeat (first | apply Kd.R_alloc | apply Kd.R_drewN | apply Kd.R_drew)); exact Kd.R_mono HO6015.out (fun _ hk => ⟨hk.1.2, hk.2⟩)⟩, ⟨hbw⟩⟩
  case rest =>
   clear HC7
   try clear c1
   try clear hcv1
   try clear c2
   try clear p2
   try clear c3
   try clear c5
   try clear c12
   try clear c13
   try clear c13b0
   try clear c13b1
   try clear c14
   try clear c14b0
   try clear c14b1
   try clear hcv15
   try clear hcv16
   try clear hcv17
   try clear hcv18
   obtain ⟨kq, x46_6, rfl, HA, HJ6, HO_3, HO_4, HO_5, HO_7, HB⟩ := hcut
   cases kq with
   | zero => exact absurd HA.out (by simp [laws_FnEditsDo.j0])
   | succ kj6 =>
    have H := HA.out
    clear HA
    simp only [laws_FnEditsDo.j0] at H
    by_cases c19 : x46_6 = true
    ·subst c19
     have H1 : (if t6013 = t6009 then (some ((strOfNums t6012).toList == (strOfNums t6008).toList)) else (some false)) = some r := by rw [if_pos rfl] at H; exact H
     clear H
     have H := H1
     clear H1
     by_cases c20 : t6013 = t6009
     ·rw [if_pos c20] at H
      have c20b0 : (t6013 == t6009) = true := beq_iff_eq.mpr c20
      have c20b1 : (t6013 != t6009) = false := bne_eq_false_iff_eq.mpr c20
      clear c20
      obtain rfl := Option.some.inj H
      have hcv21 := own_string (P := Tryd.prog) Tryd.underlying22 Tryd.underlying5 Tryd.underlying9 (Kd.own_of_R HO_7.out)
      have hcv22 := own_string (P := Tryd.prog) Tryd.underlying22 Tryd.underlying5 Tryd.underlying9 (Kd.own_of_R HO_5.out)
      go_wp2
      go_ret
      exact ⟨erf, hbw⟩
     ·rw [if_neg c20] at H
      have c20b0 : (t6013 == t6009) = false := beq_eq_false_iff_ne.mpr c20
      have c20b1 : (t6013 != t6009) = true := bne_iff_ne.mpr c20
      obtain rfl := Option.some.inj H
      go_wp2
      go_ret
      exact ⟨erf, hbw⟩
    ·replace c19 := Bool.eq_false_iff.mpr c19
     subst c19
     have H1 : ((laws_pick.f kj6 l0 3 (wrap64 (t6013 + 1))).bind fun t6016 => (if 0 ≤ t6016 then (if t6016 ≤ (t6005.length : Int) then ((impl_EditsDo.f kj6 t6002 (t6005.take (t6016 : Int).toNat)).bind fun bt6022 => ((impl_EditsDo.f kj6 bt6022.1 (t6005.drop (t6016 : Int).toNat)).bind fun bt6031 => (if bt6022.2 = t6016 then (if bt6031.2 = (wrap64 (t6013 - t6016)) then (laws_FnEditsDo.j1 kj6 ((strOfNums bt6031.1).toList == (strOfNums t6012).toList)) else (laws_FnEditsDo.j1 kj6 false)) else (laws_FnEditsDo.j1 kj6 false)))) else (none)) else (none))) = some r := by rw [if_neg (show ¬ (false = true) by decide)] at H; exact H
     clear H
     have H := H1
     clear H1
     replace H := Option.bind_eq_some_iff.mp H
     obtain ⟨t6016, A230, H⟩ := H
     replace H : (if 0 ≤ t6016 then (if t6016 ≤ (t6005.length : Int) then ((impl_EditsDo.f kj6 t6002 (t6005.take (t6016 : Int).toNat)).bind fun bt6022 => ((impl_EditsDo.f kj6 bt6022.1 (t6005.drop (t6016 : Int).toNat)).bind fun bt6031 => (if bt6022.2 = t6016 then (if bt6031.2 = (wrap64 (t6013 - t6016)) then (laws_FnEditsDo.j1 kj6 ((strOfNums bt6031.1).toList == (strOfNums t6012).toList)) else (laws_FnEditsDo.j1 kj6 false)) else (laws_FnEditsDo.j1 kj6 false)))) else (none)) else (none)) = some r := H
     have A23 := Aside0.mk A230
     clear A230
     by_cases c24 : 0 ≤ t6016
     ·rw [if_pos c24] at H
      have c24b0 := eq_true c24
      have c24b1 : decide (0 ≤ t6016) = true := decide_eq_true c24
      clear c24
      by_cases c25 : t6016 ≤ (t6005.length : Int)
      ·rw [if_pos c25] at H
       have c25b0 := eq_true c25
       have c25b1 : decide (t6016 ≤ (t6005.length : Int)) = true := decide_eq_true c25
       clear c25
       obtain ⟨y6017, hy6017⟩ : ∃ y_ : List (S25), y_ = (t6005.take (t6016 : Int).toNat) := ⟨_, rfl⟩
       replace H : ((impl_EditsDo.f kj6 t6002 y6017).bind fun bt6022 => ((impl_EditsDo.f kj6 bt6022.1 (t6005.drop (t6016 : Int).toNat)).bind fun bt6031 => (if bt6022.2 = t6016 then (if bt6031.2 = (wrap64 (t6013 - t6016)) then (laws_FnEditsDo.j1 kj6 ((strOfNums bt6031.1).toList == (strOfNums t6012).toList)) else (laws_FnEditsDo.j1 kj6 false)) else (laws_FnEditsDo.j1 kj6 false)))) = some r := repH hy6017 H
       have Ny6017 := Aside0.mk hy6017
       clear hy6017
       replace H := Option.bind_eq_some_iff.mp H
       obtain ⟨⟨t6022, t6023⟩, A260, H⟩ := H
       replace H : ((impl_EditsDo.f kj6 t6022 (t6005.drop (t6016 : Int).toNat)).bind fun bt6031 => (if t6023 = t6016 then (if bt6031.2 = (wrap64 (t6013 - t6016)) then (laws_FnEditsDo.j1 kj6 ((strOfNums bt6031.1).toList == (strOfNums t6012).toList)) else (laws_FnEditsDo.j1 kj6 false)) else (laws_FnEditsDo.j1 kj6 false))) = some r := H
       have A26 := Aside0.mk A260
       clear A260
       have c27b0 := eq_true (odt : 0 ≤ t6016)
       have c28b0 := eq_true (odt : t6016 ≤ (t6005.length : Int))
       obtain ⟨y6026, hy6026⟩ : ∃ y_ : List (S25), y_ = (t6005.drop (t6016 : Int).toNat) := ⟨_, rfl⟩
       replace H : ((impl_EditsDo.f kj6 t6022 y6026).bind fun bt6031 => (if t6023 = t6016 then (if bt6031.2 = (wrap64 (t6013 - t6016)) then (laws_FnEditsDo.j1 kj6 ((strOfNums bt6031.1).toList == (strOfNums t6012).toList)) else (laws_FnEditsDo.j1 kj6 false)) else (laws_FnEditsDo.j1 kj6 false))) = some r := repH hy6026 H
       have Ny6026 := Aside0.mk hy6026
       clear hy6026
       replace H := Option.bind_eq_some_iff.mp H
       obtain ⟨⟨t6031, t6032⟩, A290, H⟩ := H
       replace H : (if t6023 = t6016 then (if t6032 = (wrap64 (t6013 - t6016)) then (laws_FnEditsDo.j1 kj6 ((strOfNums t6031).toList == (strOfNums t6012).toList)) else (laws_FnEditsDo.j1 kj6 false)) else (laws_FnEditsDo.j1 kj6 false)) = some r := H
       have A29 := Aside0.mk A290
       clear A290
       have HC30 := Aside0.mk H
       clear H
       go_upto_region 11 with (first | ((with_reducible refine gate_callee (f := 17) rfl ?_); refine goesM (some 60) Tryd.func17 #[.slice A0 l0.length c0, .int .i64 3, .int .i64 (wrap64 (t6013 + 1))] ?_; (with_reducible refine (laws_pick.calls kj6 _ _ l0 3 (wrap64 (t6013 + 1)) t6016 _ ?side1 ?side2 A23.out).mono ?_); (case side1 => exact cpl (Kd.C_below HR0.out HB.out)); (case side2 => exact HC0.out); rintro e w' ⟨rfl, ⟨nd, rfl⟩⟩; refine ⟨_, rfl, ?_⟩; have q31 : (t6016 : Int) ≤ ((t6005.length : Int) : Int) := odt; obtain ⟨i031, hi031, _, hsz31, _⟩ := info_parts info25; have hroom31 : t6005.length ≤ co10 := (Kd.N_reads' HO_4.out).2.1; have hC31 : Kd.F k25 _ _ Ao10 t6005.length t6005 := (Kd.V_at (base := w.heap.size) (Kd.N_V HO_4.out)).2.2; have hcut31 := cut_to (P := Tryd.prog) 42 25 .i64 Tryd.underlying42 hi031 Ao10 t6005.length co10 t6016 (odt) q31 hroom31; have hr31 := Kd.F_take (m := (t6016 : Int).toNat) hC31 (by omega); have hy31 : y6017.length = (t6016 : Int).toNat := (by rw [Ny6017.out, List.length_take]; omega); rw [← Ny6017.out] at hr31; rw [← hy31] at hcut31; have HO6021 := Aside0.mk (show Kd.V k25 25 _ w.heap.size _ (.slice Ao10 y6017.length co10) y6017 from Kd.V_mk (by omega) hr31); have HC6021 := Aside0.mk (show y6017.length ≤ co10 from by omega); clear hr31 hC31 hroom31 hi031 hsz31; have KY31 := Aside0.mk hy31; clear hy31; replace q31 := eq_true q31) | ((with_reducible refine gate_callee (f := 29) rfl ?_); refine goesM (some 66) Tryd.func29 #[.slice Ao9 t6002.length co9, .slice Ao10 y6017.length co10] ?_; (with_reducible refine (impl_EditsDo.calls kj6 _ _ t6002 _ _ y6017 t6022 t6023 _ ?side1 ?side2 ?side3 ?side4 ?side5 A26.out).mono ?_); (case side1 => exact cpl (Kd.R_reads' HO_3.out).2.2); (case side2 => exact (Kd.R_reads' HO_3.out).2.1); (case side3 => exact cpl (Kd.V_reads' HO6021.out).2.2); (case side4 => exact (Kd.V_reads' HO6021.out).2.1); (case side5 => exact GTab.below hG hbw); rintro e w32 ⟨v6024, rfl, ho0, hb⟩; refine ⟨_, rfl, ?_⟩; have HO6025 := Aside0.mk (Kd.R_lower (Kd.R_new' (Kd.R_new' (Kd.R_new' ho0 (Kd.R_lt (hrnR HO_3))) (Kd.R_lt (hrnR HO_5))) (Kd.R_lt (hrnR HO_7))) (below_size hbw)); replace HO_3 := Aside0.mk (Kd.R_elder' (hrnR HO_3) (Kd.R_base ho0) hb); replace HO_4 := Aside0.mk (Kd.N_elder' (hrnN HO_4) (Kd.R_base ho0) hb); replace HO_5 := Aside0.mk (Kd.R_elder' (hrnR HO_5) (Kd.R_base ho0) hb); replace HO_7 := Aside0.mk (Kd.R_elder' (hrnR HO_7) (Kd.R_base ho0) hb); replace HO6021 := Aside0.mk (Kd.V_elder' (hrnV HO6021) (Kd.R_base ho0) hb); replace HB := Aside0.mk (below_step hbw hb); (try clear hb); (try clear hb2); (try clear hk); (try clear hi); (try clear ho0); have q33 : (t6016 : Int) ≤ ((t6005.length : Int) : Int) := odt; obtain ⟨i033, hi033, _, hsz33, _⟩ := info_parts info25; have hroom33 : t6005.length ≤ co10 := (Kd.N_reads' HO_4.out).2.1; have hC33 : Kd.F k25 _ _ Ao10 t6005.length t6005 := (Kd.V_at (base := w.heap.size) (Kd.N_V HO_4.out)).2.2; have q033 : (0 : Int) ≤ (t6016 : Int) := odt; have hcut33 := cut_from (P := Tryd.prog) 42 25 .i64 Tryd.underlying42 hi033 3 hsz33 Ao10 t6005.length co10 t6016 q033 q33; have hr33 := Kd.F_cut (m := (t6016 : Int).toNat) (c := co10) hC33 (by omega) hroom33; obtain ⟨A33, hA33⟩ : ∃ A1_, A1_ = (if co10 = (t6016 : Int).toNat then Ao10 else (Ao10 : Option Addr).map (·.add ((t6016 : Int).toNat * 3))) := ⟨_, rfl⟩; obtain ⟨c33, hc33⟩ : ∃ c1_, c1_ = co10 - (t6016 : Int).toNat := ⟨_, rfl⟩; have hy33 : y6026.length = t6005.length - (t6016 : Int).toNat := (by rw [Ny6026.out, List.length_drop] <;> omega); rw [show (t6005).drop (t6016 : Int).toNat = y6026 from Ny6026.out.symm] at hr33; replace hr33 : Kd.F k25 _ _ A33 y6026.length y6026 := (by rw [hA33]; exact hr33); rw [← hy33, ← hA33, ← hc33] at hcut33; have HO6030 := Aside0.mk (show Kd.V k25 25 _ w.heap.size _ (.slice A33 y6026.length c33) y6026 from Kd.V_mk (by rw [hy33, hc33]; exact Nat.sub_le_sub_right hroom33 _) hr33); have HC6030 := Aside0.mk (show y6026.length ≤ c33 from by rw [hy33, hc33]; exact Nat.sub_le_sub_right hroom33 _); clear hr33 hC33 hroom33 hi033 hsz33 hc33; have KY33 := Aside0.mk hy33; have KA33 := Aside0.mk hA33; clear hy33 hA33; replace q33 := eq_true q33; obtain ⟨Ao34, co34, eo34⟩ := Kd.R_slice HO6025.out; subst eo34) | ((with_reducible refine gate_callee (f := 29) rfl ?_); refine goesM (some 74) Tryd.func29 #[.slice Ao34 t6022.length co34, .slice A33 y6026.length c33] ?_; (with_reducible refine (impl_EditsDo.calls kj6 _ _ t6022 _ _ y6026 t6031 t6032 _ ?side1 ?side2 ?side3 ?side4 ?side5 A29.out).mono ?_); (case side1 => exact cpl (Kd.R_reads' HO6025.out).2.2); (case side2 => exact (Kd.R_reads' HO6025.out).2.1); (case side3 => exact cpl (Kd.V_reads' HO6030.out).2.2); (case side4 => exact (Kd.V_reads' HO6030.out).2.1); (case side5 => exact GTab.below hG hbw); rintro e w35 ⟨v6033, rfl, ho0, hb⟩; refine ⟨_, rfl, ?_⟩; have HO6034 := Aside0.mk (Kd.R_lower (Kd.R_new' (Kd.R_new' (Kd.R_new' (Kd.R_new' ho0 (Kd.R_lt (hrnR HO_3))) (Kd.R_lt (hrnR HO_5))) (Kd.R_lt (hrnR HO_7))) (Kd.R_lt (hrnR HO6025))) (below_size hbw)); replace HO_3 := Aside0.mk (Kd.R_elder' (hrnR HO_3) (Kd.R_base ho0) hb); replace HO_4 := Aside0.mk (Kd.N_elder' (hrnN HO_4) (Kd.R_base ho0) hb); replace HO_5 := Aside0.mk (Kd.R_elder' (hrnR HO_5) (Kd.R_base ho0) hb); replace HO_7 := Aside0.mk (Kd.R_elder' (hrnR HO_7) (Kd.R_base ho0) hb); replace HO6021 := Aside0.mk (Kd.V_elder' (hrnV HO6021) (Kd.R_base ho0) hb); replace HO6025 := Aside0.mk (Kd.R_elder' (hrnR HO6025) (Kd.R_base ho0) hb); replace HO6030 := Aside0.mk (Kd.V_elder' (hrnV HO6030) (Kd.R_base ho0) hb); replace HB := Aside0.mk (below_step hbw hb); (try clear hb); (try clear hb2); (try clear hk); (try clear hi); (try clear ho0)))
       (try simp only [Act.put, List.setIfInBounds_toArray, List.set_cons_zero, List.set_cons_succ])
       go_cut [2] (fun v2 wc => ∃ (kq : Nat) (x2_29 : Bool), v2 = .bool x2_29 ∧ Aside0 (laws_FnEditsDo.j1 kq x2_29 = some r) ∧ Aside0 (kq ≤ kj6) ∧ Aside0 (Below w.heap.size w wc))
       case first =>
        have H := HC30.out
        clear HC30
        by_cases c36 : t6023 = t6016
        ·rw [if_pos c36] at H
         have c36b0 : (t6023 == t6016) = true := beq_iff_eq.mpr c36
         have c36b1 : (t6023 != t6016) = false := bne_eq_false_iff_eq.mpr c36
         clear c36
         (first | rw [c36b0] | (simp only [i64_w, i32_w]; rw [c36b0]) | skip)
         by_cases c37 : t6032 = (wrap64 (t6013 - t6016))
         ·rw [if_pos c37] at H
          have c37b0 : (t6032 == (wrap64 (t6013 - t6016))) = true := beq_iff_eq.mpr c37
          have c37b1 : (t6032 != (wrap64 (t6013 - t6016))) = false := bne_eq_false_iff_eq.mpr c37
          clear c37
          have H' := Aside0.mk H
          clear H
          have hcv38 := own_string (P := Tryd.prog) Tryd.underlying22 Tryd.underlying5 Tryd.underlying9 (Kd.own_of_R HO6034.out)
          have hcv39 := own_string (P := Tryd.prog) Tryd.underlying22 Tryd.underlying5 Tryd.underlying9 (Kd.own_of_R HO_7.out)
          go_wp2
          go_meet
          case rel => exact ⟨_, (((strOfNums t6031).toList == (strOfNums t6012).toList)), rfs, H', ⟨by have := HJ6.out; first | omega | exact Nat.le_refl _⟩, ⟨hbw⟩⟩
         ·rw [if_neg c37] at H
          have c37b0 : (t6032 == (wrap64 (t6013 - t6016))) = false := beq_eq_false_iff_ne.mpr c37
          have c37b1 : (t6032 != (wrap64 (t6013 - t6016))) = true := bne_iff_ne.mpr c37
          have H' := Aside0.mk H
          clear H
          go_wp2
          go_meet
          case rel => exact ⟨_, (false), rfs, H', ⟨by have := HJ6.out; first | omega | exact Nat.le_refl _⟩, ⟨hbw⟩⟩
        ·rw [if_neg c36] at H
         have c36b0 : (t6023 == t6016) = false := beq_eq_false_iff_ne.mpr c36
         have c36b1 : (t6023 != t6016) = true := bne_iff_ne.mpr c36
         (first | rw [c36b0] | (simp only [i64_w, i32_w]; rw [c36b0]) | skip)
         have H' := Aside0.mk H
         clear H
         go_wp2
         go_meet
         case rel => exact ⟨_, (false), rfs, H', ⟨by have := HJ6.out; first | omega | exact Nat.le_refl _⟩, ⟨hbw⟩⟩
       case rest =>
        clear HC30
        try clear c1
        try clear hcv1
        try clear c2
        try clear p2
        try clear hcv2
        try clear c3
        try clear q3
        try clear hcv3
        try clear c5
        try clear p6
        try clear c12
        try clear c13
        try clear c13b0
        try clear c13b1
        try clear c14
        try clear c14b0
        try clear c14b1
        try clear hcv15
        try clear hcv16
        try clear c17
        try clear hcv17
        try clear hcv18
        try clear c19
        try clear c20
        try clear c20b0
        try clear c20b1
        try clear hcv21
        try clear hcv22
        try clear c24
        try clear c24b0
        try clear c24b1
        try clear c25
        try clear c25b0
        try clear c25b1
        try clear c27
        try clear c27b0
        try clear c28
        try clear c28b0
        try clear c29
        try clear q31
        try clear c33
        try clear q33
        try clear c36
        try clear c36b0
        try clear c36b1
        try clear c37
        try clear c37b0
        try clear c37b1
        try clear hcv38
        try clear hcv39
        try clear p2
        try clear q033
        try clear q31
        try clear q33
        obtain ⟨kq, x2_29, rfl, HA, HJ29, HB⟩ := hcut
        cases kq with
        | zero => exact absurd HA.out (by simp [laws_FnEditsDo.j1])
        | succ kj29 =>
         have H := HA.out
         clear HA
         simp only [laws_FnEditsDo.j1] at H
         obtain rfl := Option.some.inj H
         go_wp2
         go_ret
         exact ⟨erf, hbw⟩
      ·rw [if_neg c25] at H
       exact absurd H (by simp)
     ·rw [if_neg c24] at H
      exact absurd H (by simp)
def laws_FnEditsDo.Pure : Prop := ∀ (l0 : List Int), l0.length ≤ maxLen → l0.length * 1 ≤ 140737488351232 → (∀ x ∈ l0, (Lit.int .u8 x).wf = true) → ∃ k, laws_FnEditsDo.f k l0 = some true
theorem laws_FnEditsDo.walk (P : laws_FnEditsDo.Pure) (a0 : Option Addr) (len0 cap0 : Nat) (z0 : List Int) (w : World) (w0 : (a0 = none ∧ len0 = 0 ∧ cap0 = 0 ∧ z0 = []) ∨ ∃ x, a0 = some x ∧ len0 ≤ cap0 ∧ cap0 ≤ maxLen ∧ z0.length = cap0 ∧ (∀ i, i < z0.length → w.cell? (x.add i) = some (.int .u8 (z0.getD i 0))) ∧ ∀ n ∈ z0, (Lit.int .u8 n).wf = true) (y0 : len0 * 1 ≤ 140737488351232) (hG : GTab w) :
  Calls Tryd.prog 5 #[.slice a0 len0 cap0] w fun e w' => e = .returned (.bool true) ∧ Below w.heap.size w w' := by
 obtain ⟨l0, rfl, hr0, hm0, hw0, hc0⟩ := ReadsInt.ofRowC w0
 obtain ⟨k, h⟩ := P l0 hm0 y0 hw0
 refine (laws_FnEditsDo.calls k _ _ l0 true w (Kd.C_of_reads (d := (0 : Int)) (h1 := fun _ => rfl) hr0) hc0 hG h).mono ?_
 rintro e w' ⟨rfl, hd⟩
 exact ⟨rfl, hd⟩
end Go.Proofs.YteapbiiffcchbaaDoor.P
namespace Go.Proofs.YteapbiiffcchbaaDoor.V
open Go.RowKit Go.Proofs.YteapbiiffcchbaaDoorW.PrintWords Go.Proofs.YteapbiiffcchbaaDoorW.PrintMore Go.Proofs.YteapbiiffcchbaaDoor.P Go.Proofs.YteapbiiffcchbaaDoor.G
set_option linter.unusedVariables false
set_option linter.unusedSimpArgs false
def Ev {α : Type} (f : Nat → Option α) (v : α) : Prop := ∃ K, ∀ k, K ≤ k → f k = some v
section
variable {α β : Type} {f : Nat → Option α} {v : α} {g : Nat → α → Option β} {u : β}
theorem Ev.pure (v : α) : Ev (fun _ => some v) v := ⟨0, fun _ _ => rfl⟩
theorem Ev.const {o : Option α} (h : o = some v) : Ev (fun _ => o) v := ⟨0, fun _ _ => h⟩
theorem Ev.bind (h : Ev f v) (h2 : Ev (fun k => g k v) u) : Ev (fun k => (f k).bind (g k)) u := by
  obtain ⟨K, hK⟩ := h
  obtain ⟨L, hL⟩ := h2
  exact ⟨max K L, fun k hk => by show (f k).bind (g k) = _; rw [hK k (by omega)]; exact hL k (by omega)⟩
theorem Ev.succ (h : Ev (fun k => f (k + 1)) v) : Ev f v := by
  obtain ⟨K, hK⟩ := h
  exact ⟨K + 1, fun k hk => by obtain ⟨m, rfl⟩ : ∃ m, k = m + 1 := ⟨k - 1, by omega⟩; exact hK m (by omega)⟩
theorem Ev.congr {f' : Nat → Option α} (h : Ev f' v) (e : ∀ k, f k = f' k) : Ev f v := by
  obtain ⟨K, hK⟩ := h
  exact ⟨K, fun k hk => by rw [e k]; exact hK k hk⟩
theorem Ev.of (h : Ev f v) : ∃ k, f k = some v := let ⟨K, hK⟩ := h; ⟨K, hK K (Nat.le_refl _)⟩
theorem Ev.eq {v' : α} (h : Ev f v) (e : v = v') : Ev f v' := e ▸ h
end
def B (l : List Int) : Prop := ∀ x ∈ l, 0 ≤ x ∧ x ≤ 255
theorem B.nil : B [] := by intro x hx; cases hx
theorem B.app {a b : List Int} (ha : B a) (hb : B b) : B (a ++ b) := fun x hx => (List.mem_append.1 hx).elim (ha x) (hb x)
theorem B.left {a b : List Int} (h : B (a ++ b)) : B a := fun x hx => h x (List.mem_append.2 (.inl hx))
theorem B.right {a b : List Int} (h : B (a ++ b)) : B b := fun x hx => h x (List.mem_append.2 (.inr hx))
theorem B.take {a : List Int} (h : B a) (n : Nat) : B (a.take n) := fun x hx => h x (List.mem_of_mem_take hx)
theorem B.drop {a : List Int} (h : B a) (n : Nat) : B (a.drop n) := fun x hx => h x (List.mem_of_mem_drop hx)
theorem B.cons {x : Int} {a : List Int} (h : B (x :: a)) : (0 ≤ x ∧ x ≤ 255) ∧ B a := ⟨h x (by simp), fun y hy => h y (by simp [hy])⟩
theorem B.mk {x : Int} {a : List Int} (h : 0 ≤ x ∧ x ≤ 255) (ha : B a) : B (x :: a) := fun y hy => by rcases List.mem_cons.1 hy with rfl | hy; exact h; exact ha y hy
theorem B.of_wf {l : List Int} (h : ∀ x ∈ l, (Lit.int .u8 x).wf = true) : B l := fun x hx => by
  have := h x hx
  simp [Lit.wf, IntKind.min, IntKind.max, IntKind.bits, IntKind.signed] at this
  omega
theorem getD_lt {l : List Int} {n : Nat} (h : n < l.length) : l.getD n 0 = l[n] := by rw [List.getD_eq_getElem?_getD, List.getElem?_eq_getElem h]; rfl
theorem getD_ge {l : List Int} {n : Nat} (h : l.length ≤ n) : l.getD n 0 = 0 := by rw [List.getD_eq_getElem?_getD, List.getElem?_eq_none h]; rfl
theorem B.rd {l : List Int} (h : B l) (i : Int) : 0 ≤ rd l i ∧ rd l i ≤ 255 := by
  by_cases c : i.toNat < l.length
  · show 0 ≤ l.getD i.toNat 0 ∧ l.getD i.toNat 0 ≤ 255
    rw [getD_lt c]
    exact h _ (List.getElem_mem _)
  · show 0 ≤ l.getD i.toNat 0 ∧ l.getD i.toNat 0 ≤ 255
    rw [getD_ge (by omega)]
    omega
theorem wrap64_id {n : Int} (h0 : -9223372036854775808 ≤ n) (h1 : n ≤ 9223372036854775807) : wrap64 n = n := by unfold wrap64; omega
theorem ofNat_inj {x y : Int} (hx : 0 ≤ x ∧ x ≤ 255) (hy : 0 ≤ y ∧ y ≤ 255) (h : UInt8.ofNat x.toNat = UInt8.ofNat y.toNat) : x = y := by
  have := congrArg UInt8.toNat h
  simp at this
  omega
theorem bytes_inj : ∀ {a b : List Int}, B a → B b → Lib.bytesOf a = Lib.bytesOf b → a = b
  | [], [], _, _, _ => rfl
  | [], _ :: _, _, _, h => by simp [Lib.bytesOf] at h
  | _ :: _, [], _, _, h => by simp [Lib.bytesOf] at h
  | x :: a, y :: b, ha, hb, h => by
    simp only [Lib.bytesOf, List.map_cons, List.cons.injEq] at h
    rw [ofNat_inj ha.cons.1 hb.cons.1 h.1, bytes_inj ha.cons.2 hb.cons.2 h.2]
theorem str_eq {a b : List Int} (ha : B a) (hb : B b) : (strOfNums a).toList = (strOfNums b).toList ↔ a = b := by
  rw [Lib.strOfNums_toList, Lib.strOfNums_toList]
  exact ⟨bytes_inj ha hb, fun h => by rw [h]⟩
def rbytes (a : Int) : List Int :=
  if a < 0 ∨ a > 1114111 ∨ (55296 ≤ a ∧ a ≤ 57343) then [] else if a < 128 then [a] else if a < 2048 then [192 + a / 64, 128 + a % 64]
  else if a < 65536 then [224 + a / 4096, 128 + a / 64 % 64, 128 + a % 64] else [240 + a / 262144, 128 + a / 4096 % 64, 128 + a / 64 % 64, 128 + a % 64]
theorem rbytes_B (a : Int) : B (rbytes a) := by
  intro x hx
  unfold rbytes at hx
  repeat' split at hx
  all_goals simp at hx
  all_goals omega
theorem RuneBytes_ev (a : Int) : Ev (fun k => spec_RuneBytes.f k a) (rbytes a) := by
  refine ⟨1, fun k hk => ?_⟩
  obtain ⟨k, rfl⟩ : ∃ m, k = m + 1 := ⟨k - 1, by omega⟩
  have key : ∀ x : Bool, x = decide (a < 0 ∨ a > 1114111 ∨ (55296 ≤ a ∧ a ≤ 57343)) → spec_RuneBytes.j0 (k + 1) a x = some (rbytes a) := by
    intro x hx
    subst hx
    show (if decide (a < 0 ∨ a > 1114111 ∨ (55296 ≤ a ∧ a ≤ 57343)) = true then _ else _) = _
    unfold rbytes
    by_cases c : a < 0 ∨ a > 1114111 ∨ (55296 ≤ a ∧ a ≤ 57343)
    · rw [if_pos (by simpa using c), if_pos c]
    · rw [if_neg (by simpa using c), if_neg c]
      have h0 : 0 ≤ a := by omega
      have h1 : a ≤ 1114111 := by omega
      have t : ∀ b : Int, 0 < b → Int.tdiv a b = a / b := fun b _ => Int.tdiv_eq_ediv_of_nonneg h0
      rw [t 64 (by omega), t 4096 (by omega), t 262144 (by omega), Int.tmod_eq_emod_of_nonneg h0]
      rw [wrap64_id (n := a / 64) (by omega) (by omega), wrap64_id (n := a / 4096) (by omega) (by omega), wrap64_id (n := a / 262144) (by omega) (by omega)]
      rw [Int.tmod_eq_emod_of_nonneg (a := a / 64) (by omega), Int.tmod_eq_emod_of_nonneg (a := a / 4096) (by omega)]
      simp only [wrap64]
      split
      · congr 2; omega
      split
      · congr 2; omega; congr 1; omega
      split
      · congr 2; omega; congr 1; omega; congr 1; omega
      · congr 2; omega; congr 1; omega; congr 1; omega; congr 1; omega
  show spec_RuneBytes.f (k + 1) a = _
  unfold spec_RuneBytes.f
  by_cases c1 : a < 0
  · rw [if_pos c1]; exact key _ (by simp [c1])
  rw [if_neg c1]
  by_cases c2 : a > 1114111
  · rw [if_pos c2]; exact key _ (by simp [c2])
  rw [if_neg c2]
  by_cases c3 : a ≥ 55296
  · rw [if_pos c3]; exact key _ (by simp [c1, c2, c3])
  · rw [if_neg c3]; exact key _ (by simp [c1, c2]; omega)
def rsz (n b0 b1 b2 b3 : Int) : Int :=
  if n ≤ 0 then 0 else if b0 < 128 then 1 else if b0 < 194 then 0
  else if b0 < 224 then (if 2 ≤ n ∧ 128 ≤ b1 ∧ b1 ≤ 191 then 2 else 0)
  else if b0 < 240 then (if 3 ≤ n ∧ (if b0 = 224 then 160 else 128) ≤ b1 ∧ b1 ≤ (if b0 = 237 then 159 else 191) ∧ 128 ≤ b2 ∧ b2 ≤ 191 then 3 else 0)
  else if b0 < 245 then (if 4 ≤ n ∧ (if b0 = 240 then 144 else 128) ≤ b1 ∧ b1 ≤ (if b0 = 244 then 143 else 191) ∧ 128 ≤ b2 ∧ b2 ≤ 191 ∧ 128 ≤ b3 ∧ b3 ≤ 191 then 4 else 0)
  else 0
def rsAt (l : List Int) (i : Int) : Int := rsz ((l.length : Int) - i) (rd l i) (rd l (i + 1)) (rd l (i + 2)) (rd l (i + 3))
theorem drop_cons {l : List Int} {i : Int} (h0 : 0 ≤ i) (h1 : i < (l.length : Int)) : l.drop i.toNat = rd l i :: l.drop (i + 1).toNat := by
  rw [List.drop_eq_getElem_cons (show i.toNat < l.length by omega), show (i + 1).toNat = i.toNat + 1 by omega]
  unfold rd
  rw [getD_lt (show i.toNat < l.length by omega)]
theorem seg {l : List Int} {i m : Int} (h0 : 0 ≤ i) (hm : 0 ≤ m) : (l.take (i + m).toNat).drop i.toNat = (l.drop i.toNat).take m.toNat := by
  rw [List.drop_take, show (i + m).toNat - i.toNat = m.toNat by omega]
theorem len_drop {l : List Int} {i : Int} (h0 : 0 ≤ i) (h1 : i ≤ (l.length : Int)) : ((l.drop i.toNat).length : Int) = (l.length : Int) - i := by rw [List.length_drop]; omega
theorem seg1 {l : List Int} {i : Int} (h0 : 0 ≤ i) (h1 : i + 1 ≤ (l.length : Int)) : (l.take (i + 1).toNat).drop i.toNat = [rd l i] := by
  rw [seg h0 (by omega), drop_cons h0 (by omega)]; rfl
theorem seg2 {l : List Int} {i : Int} (h0 : 0 ≤ i) (h1 : i + 2 ≤ (l.length : Int)) : (l.take (i + 2).toNat).drop i.toNat = [rd l i, rd l (i + 1)] := by
  rw [seg h0 (by omega), drop_cons h0 (by omega), drop_cons (i := i + 1) (by omega) (by omega)]; rfl
theorem seg3 {l : List Int} {i : Int} (h0 : 0 ≤ i) (h1 : i + 3 ≤ (l.length : Int)) : (l.take (i + 3).toNat).drop i.toNat = [rd l i, rd l (i + 1), rd l (i + 2)] := by
  rw [seg h0 (by omega), drop_cons h0 (by omega), drop_cons (i := i + 1) (by omega) (by omega), drop_cons (i := i + 1 + 1) (by omega) (by omega), show i + 1 + 1 = i + 2 by omega]; rfl
theorem seg4 {l : List Int} {i : Int} (h0 : 0 ≤ i) (h1 : i + 4 ≤ (l.length : Int)) : (l.take (i + 4).toNat).drop i.toNat = [rd l i, rd l (i + 1), rd l (i + 2), rd l (i + 3)] := by
  rw [seg h0 (by omega), drop_cons h0 (by omega), drop_cons (i := i + 1) (by omega) (by omega), drop_cons (i := i + 1 + 1) (by omega) (by omega), drop_cons (i := i + 1 + 1 + 1) (by omega) (by omega), show i + 1 + 1 + 1 = i + 3 by omega, show i + 1 + 1 = i + 2 by omega]; rfl
theorem l01Rune_end {l : List Int} (hB : B l) (hl : (l.length : Int) ≤ 1000000000000) {i m v : Int} (h0 : 0 ≤ i) (hm : 1 ≤ m) (h1 : i + m ≤ (l.length : Int)) : Ev (fun k => spec_l01Rune.l0 k l i m v m) (if rbytes v = (l.take (i + m).toNat).drop i.toNat then (v, m) else (-1, 0)) := by
  apply Ev.succ
  simp only [spec_l01Rune.l0, Int.lt_irrefl, if_false]
  refine Ev.bind (RuneBytes_ev v) ?_
  rw [wrap64_id (n := i + m) (by omega) (by omega), if_pos h0, if_pos (by omega), if_pos h1]
  refine Ev.const ?_
  simp only [str_eq (rbytes_B v) ((hB.take _).drop _)]
  split <;> rfl
theorem l01Rune_round {l : List Int} (hl : (l.length : Int) ≤ 1000000000000) {i m v j : Int} {u : Int × Int} (h0 : 0 ≤ i) (hj : 0 ≤ j) (hjm : j < m) (h1 : i + m ≤ (l.length : Int)) (h : Ev (fun k => spec_l01Rune.l0 k l i m (wrap64 (wrap64 (wrap64 (64 * v) + wrap64 (rd l (i + j))) - 128)) (j + 1)) u) : Ev (fun k => spec_l01Rune.l0 k l i m v j) u := by
  apply Ev.succ
  simp only [spec_l01Rune.l0, if_pos hjm]
  rw [wrap64_id (n := i + j) (by omega) (by omega), wrap64_id (n := j + 1) (by omega) (by omega)]
  simp only [if_pos (show 0 ≤ i + j by omega), if_pos (show i + j < (l.length : Int) by omega)]
  exact h
theorem num4 (n b0 b1 b2 b3 : Int) (hn : 4 ≤ n) (h0 : 240 ≤ b0) (h0' : b0 < 256) (B1 : 0 ≤ b1 ∧ b1 ≤ 255) (B2 : 0 ≤ b2 ∧ b2 ≤ 255) (B3 : 0 ≤ b3 ∧ b3 ≤ 255) :
    (if rbytes (64 * (64 * (64 * (b0 - 240) + b1 - 128) + b2 - 128) + b3 - 128) = [b0, b1, b2, b3] then (4 : Int) else 0) = rsz n b0 b1 b2 b3 := by
  obtain ⟨v, hv⟩ : ∃ v, 64 * (64 * (64 * (b0 - 240) + b1 - 128) + b2 - 128) + b3 - 128 = v := ⟨_, rfl⟩
  rw [hv]
  by_cases c : rbytes v = [b0, b1, b2, b3]
  · rw [if_pos c]
    unfold rbytes at c
    unfold rsz
    repeat' split at c
    all_goals simp only [List.cons.injEq, and_true, reduceCtorEq, and_false, List.nil_eq] at c
    all_goals (repeat' split) <;> omega
  · rw [if_neg c]
    unfold rsz
    repeat' split
    all_goals first | rfl | omega | (exfalso; apply c; unfold rbytes; repeat' split)
    all_goals first | omega | (simp only [List.cons.injEq, and_true]; omega)
theorem rsz_short4 (n b0 b1 b2 b3 : Int) (hn : n < 4) (h0 : 240 ≤ b0) (h0' : b0 < 256) : rsz n b0 b1 b2 b3 = 0 := by
  unfold rsz
  repeat' split
  all_goals first | rfl | omega
theorem num3 (n b0 b1 b2 b3 : Int) (hn : 3 ≤ n) (h0 : 224 ≤ b0) (h0' : b0 < 240) (B1 : 0 ≤ b1 ∧ b1 ≤ 255) (B2 : 0 ≤ b2 ∧ b2 ≤ 255) (B3 : 0 ≤ b3 ∧ b3 ≤ 255) :
    (if rbytes (64 * (64 * (b0 - 224) + b1 - 128) + b2 - 128) = [b0, b1, b2] then (3 : Int) else 0) = rsz n b0 b1 b2 b3 := by
  obtain ⟨v, hv⟩ : ∃ v, 64 * (64 * (b0 - 224) + b1 - 128) + b2 - 128 = v := ⟨_, rfl⟩
  rw [hv]
  by_cases c : rbytes v = [b0, b1, b2]
  · rw [if_pos c]
    unfold rbytes at c
    unfold rsz
    repeat' split at c
    all_goals simp only [List.cons.injEq, and_true, reduceCtorEq, and_false, List.nil_eq] at c
    all_goals (repeat' split) <;> omega
  · rw [if_neg c]
    unfold rsz
    repeat' split
    all_goals first | rfl | omega | (exfalso; apply c; unfold rbytes; repeat' split)
    all_goals first | omega | (simp only [List.cons.injEq, and_true]; omega)
theorem rsz_short3 (n b0 b1 b2 b3 : Int) (hn : n < 3) (h0 : 224 ≤ b0) (h0' : b0 < 240) : rsz n b0 b1 b2 b3 = 0 := by
  unfold rsz
  repeat' split
  all_goals first | rfl | omega
theorem num2 (n b0 b1 b2 b3 : Int) (hn : 2 ≤ n) (h0 : 192 ≤ b0) (h0' : b0 < 224) (B1 : 0 ≤ b1 ∧ b1 ≤ 255) (B2 : 0 ≤ b2 ∧ b2 ≤ 255) (B3 : 0 ≤ b3 ∧ b3 ≤ 255) :
    (if rbytes (64 * (b0 - 192) + b1 - 128) = [b0, b1] then (2 : Int) else 0) = rsz n b0 b1 b2 b3 := by
  obtain ⟨v, hv⟩ : ∃ v, 64 * (b0 - 192) + b1 - 128 = v := ⟨_, rfl⟩
  rw [hv]
  by_cases c : rbytes v = [b0, b1]
  · rw [if_pos c]
    unfold rbytes at c
    unfold rsz
    repeat' split at c
    all_goals simp only [List.cons.injEq, and_true, reduceCtorEq, and_false, List.nil_eq] at c
    all_goals (repeat' split) <;> omega
  · rw [if_neg c]
    unfold rsz
    repeat' split
    all_goals first | rfl | omega | (exfalso; apply c; unfold rbytes; repeat' split)
    all_goals first | omega | (simp only [List.cons.injEq, and_true]; omega)
theorem rsz_short2 (n b0 b1 b2 b3 : Int) (hn : n < 2) (h0 : 192 ≤ b0) (h0' : b0 < 224) : rsz n b0 b1 b2 b3 = 0 := by
  unfold rsz
  repeat' split
  all_goals first | rfl | omega
theorem l01Rune_size {l : List Int} (hB : B l) (hl : (l.length : Int) ≤ 1000000000000) {i : Int} (h0 : 0 ≤ i) : ∃ v, Ev (fun k => spec_l01Rune.f k l i) (v, rsAt l i) := by
  by_cases hi : i ≥ (l.length : Int)
  · refine ⟨-1, Ev.succ ?_⟩
    simp only [spec_l01Rune.f, if_neg (show ¬ i < 0 by omega), hi, decide_true, spec_l01Rune.j0, if_true]
    refine Ev.const ?_
    simp [rsAt, rsz, show (l.length : Int) - i ≤ 0 by omega]
  obtain ⟨b0, hb0⟩ : ∃ b, rd l i = b := ⟨_, rfl⟩
  obtain ⟨b1, hb1⟩ : ∃ b, rd l (i + 1) = b := ⟨_, rfl⟩
  obtain ⟨b2, hb2⟩ : ∃ b, rd l (i + 2) = b := ⟨_, rfl⟩
  obtain ⟨b3, hb3⟩ : ∃ b, rd l (i + 3) = b := ⟨_, rfl⟩
  have B0 := hB.rd i
  have B1 := hB.rd (i + 1)
  have B2 := hB.rd (i + 2)
  have B3 := hB.rd (i + 3)
  rw [hb0] at B0
  rw [hb1] at B1
  rw [hb2] at B2
  rw [hb3] at B3
  have hn : ¬ (l.length : Int) - i ≤ 0 := by omega
  have go : ∀ m v, 1 ≤ m → (∃ u, Ev (fun k => spec_l01Rune.j1 k l i m v) (u, rsAt l i)) → (∀ k, spec_l01Rune.f (k + 1) l i = spec_l01Rune.j1 k l i m v) → ∃ u, Ev (fun k => spec_l01Rune.f k l i) (u, rsAt l i) := fun m v _ ⟨u, hu⟩ e => ⟨u, Ev.succ (hu.congr e)⟩
  have hd : ∀ k, spec_l01Rune.f (k + 1) l i = (if b0 ≥ 240 then (spec_l01Rune.j1 k l i 4 (wrap64 (b0 - 240))) else (if b0 ≥ 224 then (spec_l01Rune.j1 k l i 3 (wrap64 (b0 - 224))) else (if b0 ≥ 192 then (spec_l01Rune.j1 k l i 2 (wrap64 (b0 - 192))) else (spec_l01Rune.j1 k l i 1 b0)))) := by
    intro k
    simp only [spec_l01Rune.f, spec_l01Rune.j0, if_neg (show ¬ i < 0 by omega), show decide (i ≥ (l.length : Int)) = false by simp; omega, if_pos h0, if_pos (show i < (l.length : Int) by omega), hb0, wrap64_id (n := b0) (by omega) (by omega)]
    simp
  have short : ∀ m v, 1 ≤ m → m ≤ 4 → (l.length : Int) - i < m → Ev (fun k => spec_l01Rune.j1 k l i m v) (-1, 0) := by
    intro m v h1 h4 hs
    apply Ev.succ
    simp only [spec_l01Rune.j1, wrap64_id (n := (l.length : Int) - i) (by omega) (by omega), if_pos (show m > (l.length : Int) - i by omega)]
    exact Ev.pure _
  have long : ∀ m v u, 1 ≤ m → m ≤ 4 → m ≤ (l.length : Int) - i → Ev (fun k => spec_l01Rune.l0 k l i m v 1) u → Ev (fun k => spec_l01Rune.j1 k l i m v) u := by
    intro m v u h1 h4 hs h
    apply Ev.succ
    simp only [spec_l01Rune.j1, wrap64_id (n := (l.length : Int) - i) (by omega) (by omega), if_neg (show ¬ m > (l.length : Int) - i by omega)]
    exact h
  by_cases c4 : b0 ≥ 240
  · refine go 4 (wrap64 (b0 - 240)) (by omega) ?_ (fun k => by rw [hd, if_pos c4])
    rw [wrap64_id (n := b0 - 240) (by omega) (by omega)]
    by_cases hs : (l.length : Int) - i < 4
    · refine ⟨-1, (short 4 _ (by omega) (by omega) hs).eq ?_⟩
      rw [rsAt, hb0, hb1, hb2, hb3, rsz_short4 _ _ _ _ _ (by omega) (by omega) (by omega)]
    have e := l01Rune_end hB hl (v := 64 * (64 * (64 * (b0 - 240) + b1 - 128) + b2 - 128) + b3 - 128) h0 (by omega) (show i + 4 ≤ (l.length : Int) by omega)
    have e := l01Rune_round hl (v := 64 * (64 * (b0 - 240) + b1 - 128) + b2 - 128) h0 (j := 3) (by omega) (by omega) (show i + 4 ≤ (l.length : Int) by omega) (e.congr (fun k => by rw [hb3, wrap64_id (n := 64 * _) (by omega) (by omega), wrap64_id (n := b3) (by omega) (by omega), wrap64_id (n := _ + b3) (by omega) (by omega), wrap64_id (n := _ - 128) (by omega) (by omega)]; rfl))
    have e := l01Rune_round hl (v := 64 * (b0 - 240) + b1 - 128) h0 (j := 2) (by omega) (by omega) (show i + 4 ≤ (l.length : Int) by omega) (e.congr (fun k => by rw [hb2, wrap64_id (n := 64 * _) (by omega) (by omega), wrap64_id (n := b2) (by omega) (by omega), wrap64_id (n := _ + b2) (by omega) (by omega), wrap64_id (n := _ - 128) (by omega) (by omega)]; rfl))
    have e := l01Rune_round hl (v := b0 - 240) h0 (j := 1) (by omega) (by omega) (show i + 4 ≤ (l.length : Int) by omega) (e.congr (fun k => by rw [hb1, wrap64_id (n := 64 * _) (by omega) (by omega), wrap64_id (n := b1) (by omega) (by omega), wrap64_id (n := _ + b1) (by omega) (by omega), wrap64_id (n := _ - 128) (by omega) (by omega)]; rfl))
    rw [seg4 h0 (by omega), hb0, hb1, hb2, hb3] at e
    refine ⟨_, (long 4 _ _ (by omega) (by omega) (by omega) e).eq (Prod.ext rfl ?_)⟩
    rw [rsAt, hb0, hb1, hb2, hb3, ← num4 _ b0 b1 b2 b3 (by omega) (by omega) (by omega) B1 B2 B3]
    split <;> rfl
  by_cases c3 : b0 ≥ 224
  · refine go 3 (wrap64 (b0 - 224)) (by omega) ?_ (fun k => by rw [hd, if_neg c4, if_pos c3])
    rw [wrap64_id (n := b0 - 224) (by omega) (by omega)]
    by_cases hs : (l.length : Int) - i < 3
    · refine ⟨-1, (short 3 _ (by omega) (by omega) hs).eq ?_⟩
      rw [rsAt, hb0, hb1, hb2, hb3, rsz_short3 _ _ _ _ _ (by omega) (by omega) (by omega)]
    have e := l01Rune_end hB hl (v := 64 * (64 * (b0 - 224) + b1 - 128) + b2 - 128) h0 (by omega) (show i + 3 ≤ (l.length : Int) by omega)
    have e := l01Rune_round hl (v := 64 * (b0 - 224) + b1 - 128) h0 (j := 2) (by omega) (by omega) (show i + 3 ≤ (l.length : Int) by omega) (e.congr (fun k => by rw [hb2, wrap64_id (n := 64 * _) (by omega) (by omega), wrap64_id (n := b2) (by omega) (by omega), wrap64_id (n := _ + b2) (by omega) (by omega), wrap64_id (n := _ - 128) (by omega) (by omega)]; rfl))
    have e := l01Rune_round hl (v := b0 - 224) h0 (j := 1) (by omega) (by omega) (show i + 3 ≤ (l.length : Int) by omega) (e.congr (fun k => by rw [hb1, wrap64_id (n := 64 * _) (by omega) (by omega), wrap64_id (n := b1) (by omega) (by omega), wrap64_id (n := _ + b1) (by omega) (by omega), wrap64_id (n := _ - 128) (by omega) (by omega)]; rfl))
    rw [seg3 h0 (by omega), hb0, hb1, hb2] at e
    refine ⟨_, (long 3 _ _ (by omega) (by omega) (by omega) e).eq (Prod.ext rfl ?_)⟩
    rw [rsAt, hb0, hb1, hb2, hb3, ← num3 _ b0 b1 b2 b3 (by omega) (by omega) (by omega) B1 B2 B3]
    split <;> rfl
  by_cases c2 : b0 ≥ 192
  · refine go 2 (wrap64 (b0 - 192)) (by omega) ?_ (fun k => by rw [hd, if_neg c4, if_neg c3, if_pos c2])
    rw [wrap64_id (n := b0 - 192) (by omega) (by omega)]
    by_cases hs : (l.length : Int) - i < 2
    · refine ⟨-1, (short 2 _ (by omega) (by omega) hs).eq ?_⟩
      rw [rsAt, hb0, hb1, hb2, hb3, rsz_short2 _ _ _ _ _ (by omega) (by omega) (by omega)]
    have e := l01Rune_end hB hl (v := 64 * (b0 - 192) + b1 - 128) h0 (by omega) (show i + 2 ≤ (l.length : Int) by omega)
    have e := l01Rune_round hl (v := b0 - 192) h0 (j := 1) (by omega) (by omega) (show i + 2 ≤ (l.length : Int) by omega) (e.congr (fun k => by rw [hb1, wrap64_id (n := 64 * _) (by omega) (by omega), wrap64_id (n := b1) (by omega) (by omega), wrap64_id (n := _ + b1) (by omega) (by omega), wrap64_id (n := _ - 128) (by omega) (by omega)]; rfl))
    rw [seg2 h0 (by omega), hb0, hb1] at e
    refine ⟨_, (long 2 _ _ (by omega) (by omega) (by omega) e).eq (Prod.ext rfl ?_)⟩
    rw [rsAt, hb0, hb1, hb2, hb3, ← num2 _ b0 b1 b2 b3 (by omega) (by omega) (by omega) B1 B2 B3]
    split <;> rfl
  · refine go 1 b0 (by omega) ?_ (fun k => by rw [hd, if_neg c4, if_neg c3, if_neg c2])
    have e := l01Rune_end hB hl (v := b0) h0 (by omega) (show i + 1 ≤ (l.length : Int) by omega)
    rw [seg1 h0 (by omega), hb0] at e
    refine ⟨_, (long 1 _ _ (by omega) (by omega) (by omega) e).eq (Prod.ext rfl ?_)⟩
    rw [rsAt, hb0, hb1, hb2, hb3]
    by_cases c7 : b0 < 128
    · have e7 : rbytes b0 = [b0] := by unfold rbytes; rw [if_neg (by omega), if_pos c7]
      rw [if_pos e7]; unfold rsz; rw [if_neg hn, if_pos c7]
    · have e7 : ¬ rbytes b0 = [b0] := by unfold rbytes; rw [if_neg (by omega), if_neg c7, if_pos (by omega)]; simp
      rw [if_neg e7]; unfold rsz; rw [if_neg hn, if_neg c7, if_pos (by omega)]
theorem RuneSize_ev {l : List Int} (hB : B l) (hl : (l.length : Int) ≤ 1000000000000) {i : Int} (h0 : 0 ≤ i) : Ev (fun k => spec_RuneSize.f k l i) (rsAt l i) := by
  obtain ⟨v, hv⟩ := l01Rune_size hB hl h0
  exact Ev.bind hv (Ev.pure _)
theorem Ev.ite {α : Type} {c : Prop} [Decidable c] {f g : Nat → Option α} {v : α} (ht : c → Ev f v) (hf : ¬ c → Ev g v) : Ev (fun k => if c then f k else g k) v := by
  by_cases h : c
  · simp only [if_pos h]; exact ht h
  · simp only [if_neg h]; exact hf h
theorem rsz_le {n b0 b1 b2 b3 : Int} (hm : rsz n b0 b1 b2 b3 ≠ 0) : 1 ≤ rsz n b0 b1 b2 b3 ∧ rsz n b0 b1 b2 b3 ≤ 4 ∧ rsz n b0 b1 b2 b3 ≤ n := by
  revert hm
  unfold rsz
  repeat' split
  all_goals omega
theorem rsz_ge (n b0 b1 b2 b3 : Int) : 0 ≤ rsz n b0 b1 b2 b3 ∧ rsz n b0 b1 b2 b3 ≤ 4 := by
  by_cases c : rsz n b0 b1 b2 b3 = 0
  · omega
  · have := rsz_le c; omega
theorem rsz_ext {n n' b0 b1 b2 b3 c0 c1 c2 c3 m : Int} (h : rsz n b0 b1 b2 b3 = m) (hm : m ≠ 0) (hn : m ≤ n') (e0 : c0 = b0) (e1 : 2 ≤ m → c1 = b1) (e2 : 3 ≤ m → c2 = b2) (e3 : 4 ≤ m → c3 = b3) : rsz n' c0 c1 c2 c3 = m := by
  subst e0
  unfold rsz at h
  repeat' split at h
  all_goals first | omega | skip
  all_goals unfold rsz
  all_goals (first | rw [e1 (by omega)] | skip)
  all_goals (first | rw [e2 (by omega)] | skip)
  all_goals (first | rw [e3 (by omega)] | skip)
  all_goals simp_all
  all_goals omega
theorem rd_drop {l : List Int} {i j : Int} (h0 : 0 ≤ i) (h1 : 0 ≤ j) : rd (l.drop i.toNat) j = rd l (i + j) := by
  unfold rd
  rw [List.getD_eq_getElem?_getD, List.getD_eq_getElem?_getD, List.getElem?_drop, show (i + j).toNat = i.toNat + j.toNat by omega]
theorem rsAt_drop {l : List Int} {i : Int} (h0 : 0 ≤ i) (h1 : i ≤ (l.length : Int)) : rsAt l i = rsAt (l.drop i.toNat) 0 := by
  unfold rsAt
  rw [len_drop h0 h1, rd_drop h0 (by omega), rd_drop h0 (by omega), rd_drop h0 (by omega), rd_drop h0 (by omega)]
  simp
def rs (l : List Int) : Nat := (rsAt l 0).toNat
theorem rs_eq (l : List Int) : rsAt l 0 = (rs l : Int) := by
  have := rsz_ge ((l.length : Int) - 0) (rd l 0) (rd l (0 + 1)) (rd l (0 + 2)) (rd l (0 + 3))
  unfold rs rsAt
  omega
theorem rs_le (l : List Int) : rs l ≤ l.length ∧ rs l ≤ 4 := by
  by_cases c : rsAt l 0 = 0
  · unfold rs; omega
  · have := rsz_le c
    unfold rs
    unfold rsAt at *
    omega
theorem rs_ext {l l' : List Int} (h : rs l ≠ 0) (hn : rs l ≤ l'.length) (e : l'.take (rs l) = l.take (rs l)) : rs l' = rs l := by
  have h1 : rsAt l 0 ≠ 0 := by have := rs_eq l; omega
  have hle := rs_le l
  have hrd : ∀ i : Nat, i < rs l → rd l' i = rd l i := fun i hi => by
    unfold rd
    have := congrArg (fun z : List Int => z[i]?) e
    simp only [List.getElem?_take, if_pos hi] at this
    rw [List.getD_eq_getElem?_getD, List.getD_eq_getElem?_getD, Int.toNat_natCast, this]
  have key : rsAt l' 0 = rsAt l 0 := by
    have he := rs_eq l
    refine rsz_ext (m := rsAt l 0) (n := (l.length : Int) - 0) rfl h1 (by omega) (hrd 0 (by omega)) (fun c => hrd 1 (by omega)) (fun c => hrd 2 (by omega)) (fun c => hrd 3 (by omega))
  unfold rs
  rw [key]
inductive Utf : List Int → Prop
  | nil : Utf []
  | cons (l : List Int) : rs l ≠ 0 → Utf (l.drop (rs l)) → Utf l
theorem Utf.inv {l : List Int} (h : Utf l) (hne : l ≠ []) : rs l ≠ 0 ∧ Utf (l.drop (rs l)) := by
  cases h with
  | nil => exact absurd rfl hne
  | cons _ h1 h2 => exact ⟨h1, h2⟩
theorem rs_nil : rs [] = 0 := by decide
theorem rs_app {a b : List Int} (h : rs a ≠ 0) : rs (a ++ b) = rs a := by
  have := rs_le a
  refine rs_ext h (by rw [List.length_append]; omega) ?_
  rw [List.take_append_of_le_length (by omega)]
theorem Utf.app {a b : List Int} (ha : Utf a) (hb : Utf b) : Utf (a ++ b) := by
  induction ha with
  | nil => exact hb
  | cons l h1 h2 ih =>
    have := rs_le l
    refine .cons _ (by rw [rs_app h1]; exact h1) ?_
    rw [rs_app h1, List.drop_append_of_le_length (by omega)]
    exact ih
theorem Utf.cancel {a b : List Int} (ha : Utf a) (h : Utf (a ++ b)) : Utf b := by
  induction ha with
  | nil => exact h
  | cons l h1 h2 ih =>
    have := rs_le l
    have h3 := (h.inv (by intro e; rw [List.append_eq_nil_iff] at e; rw [e.1] at h1; exact h1 rs_nil)).2
    rw [rs_app h1, List.drop_append_of_le_length (by omega)] at h3
    exact ih h3
theorem Utf.head {u v s t : List Int} (hu : Utf u) (hv : Utf v) (e : u ++ s = v ++ t) (hl : u.length ≤ v.length) : ∃ x, v = u ++ x ∧ Utf x := by
  have : v = u ++ v.drop u.length := by
    have h1 : (v ++ t).take u.length = u := by rw [← e]; simp
    rw [List.take_append_of_le_length hl] at h1
    conv => lhs; rw [← List.take_append_drop u.length v, h1]
  exact ⟨_, this, hu.cancel (this ▸ hv)⟩
def Bd (l : List Int) (p : Int) : Prop := ∃ a b, l = a ++ b ∧ Utf a ∧ Utf b ∧ p = (a.length : Int)
theorem Bd.utf {l : List Int} {p : Int} (h : Bd l p) : Utf l := by obtain ⟨a, b, rfl, ha, hb, _⟩ := h; exact ha.app hb
theorem Bd.range {l : List Int} {p : Int} (h : Bd l p) : 0 ≤ p ∧ p ≤ (l.length : Int) := by obtain ⟨a, b, rfl, ha, hb, rfl⟩ := h; simp; omega
theorem Bd.take {l : List Int} {p : Int} (h : Bd l p) : Utf (l.take p.toNat) ∧ Utf (l.drop p.toNat) := by
  obtain ⟨a, b, rfl, ha, hb, rfl⟩ := h
  simp only [Int.toNat_natCast, List.take_left', List.drop_left']
  exact ⟨ha, hb⟩
theorem Bd.of {l : List Int} {p : Int} (h0 : 0 ≤ p) (h1 : p ≤ (l.length : Int)) (ha : Utf (l.take p.toNat)) (hb : Utf (l.drop p.toNat)) : Bd l p :=
  ⟨_, _, (List.take_append_drop p.toNat l).symm, ha, hb, by rw [List.length_take]; omega⟩
theorem Bd.zero {l : List Int} (h : Utf l) : Bd l 0 := ⟨[], l, rfl, .nil, h, rfl⟩
theorem Bd.end {l : List Int} (h : Utf l) : Bd l (l.length : Int) := ⟨l, [], by simp, h, .nil, rfl⟩
theorem Bd.step {s : List Int} (hne : s ≠ []) (hs : Utf s) (x : Int) : Bd s x ↔ x = 0 ∨ Bd (s.drop (rs s)) (x - (rs s : Int)) := by
  have ⟨h1, h2⟩ := hs.inv hne
  have hle := rs_le s
  constructor
  · rintro ⟨a, b, e, ha, hb, rfl⟩
    by_cases c : a = []
    · left; simp [c]
    right
    subst e
    have ⟨a1, a2⟩ := ha.inv c
    have := rs_le a
    refine ⟨a.drop (rs a), b, ?_, a2, hb, ?_⟩
    · rw [rs_app a1, List.drop_append_of_le_length (by omega)]
    · rw [rs_app a1, List.length_drop]; omega
  · rintro (rfl | ⟨a, b, e, ha, hb, hx⟩)
    · exact Bd.zero hs
    · refine ⟨s.take (rs s) ++ a, b, ?_, ?_, hb, ?_⟩
      · rw [List.append_assoc, ← e, List.take_append_drop]
      · have e2 : rs (s.take (rs s) ++ a) = rs s := rs_ext h1 (by simp; omega) (by rw [List.take_append_of_le_length (by simp; omega), List.take_take, Nat.min_self])
        refine .cons _ (by rw [e2]; exact h1) ?_
        rw [e2, List.drop_append_of_le_length (by simp; omega), List.drop_take]
        simpa using ha
      · rw [List.length_append, List.length_take]; omega
theorem l01Cuts_yes {l : List Int} (hB : B l) (hl : (l.length : Int) ≤ 1000000) : ∀ (n : Nat) (acc : List Int) (p : Int), 0 ≤ p → p ≤ (l.length : Int) → (l.length : Int) - p ≤ n → (acc.length : Int) ≤ p → Utf (l.drop p.toNat) →
    ∃ C, Ev (fun k => spec_l01Cuts.l0 k l acc p) (acc ++ C) ∧ C ≠ [] ∧ C.length ≤ n + 1 ∧ ∀ x, x ∈ C ↔ Bd (l.drop p.toNat) (x - p) := by
  intro n
  induction n with
  | zero =>
    intro acc p h0 h1 hn ha hu
    have hp : p = (l.length : Int) := by omega
    refine ⟨[p], Ev.succ ?_, by simp, by simp, fun x => ?_⟩
    · simp only [spec_l01Cuts.l0, if_neg (show ¬ p < (l.length : Int) by omega), if_pos (show acc.length < 17592186044416 by omega)]
      exact Ev.pure _
    · rw [List.drop_eq_nil_of_le (by omega)]
      constructor
      · intro hx
        simp at hx
        exact ⟨[], [], rfl, .nil, .nil, by simp; omega⟩
      · rintro ⟨a, b, e, _, _, hx⟩
        rw [eq_comm, List.append_eq_nil_iff] at e
        simp [e.1] at hx
        simp; omega
  | succ n ih =>
    intro acc p h0 h1 hn ha hu
    by_cases hp : p = (l.length : Int)
    · exact (by
        refine ⟨[p], Ev.succ ?_, by simp, by simp, fun x => ?_⟩
        · simp only [spec_l01Cuts.l0, if_neg (show ¬ p < (l.length : Int) by omega), if_pos (show acc.length < 17592186044416 by omega)]
          exact Ev.pure _
        · rw [List.drop_eq_nil_of_le (by omega)]
          constructor
          · intro hx
            simp at hx
            exact ⟨[], [], rfl, .nil, .nil, by simp; omega⟩
          · rintro ⟨a, b, e, _, _, hx⟩
            rw [eq_comm, List.append_eq_nil_iff] at e
            simp [e.1] at hx
            simp; omega)
    have hne : l.drop p.toNat ≠ [] := by intro e; rw [List.drop_eq_nil_iff] at e; omega
    have ⟨r1, r2⟩ := hu.inv hne
    have er : rsAt l p = (rs (l.drop p.toNat) : Int) := by rw [rsAt_drop h0 h1, rs_eq]
    have hle := rs_le (l.drop p.toNat)
    rw [List.length_drop] at hle
    have hd : (l.drop p.toNat).drop (rs (l.drop p.toNat)) = l.drop (p + (rs (l.drop p.toNat) : Int)).toNat := by rw [List.drop_drop, show (p + (rs (l.drop p.toNat) : Int)).toNat = p.toNat + rs (l.drop p.toNat) by omega]
    obtain ⟨C, hC, hCne, hCl, hCm⟩ := ih (acc ++ [p]) (p + (rs (l.drop p.toNat) : Int)) (by omega) (by omega) (by omega) (by rw [List.length_append]; simp; omega) (hd ▸ r2)
    refine ⟨p :: C, Ev.succ ?_, by simp, by simp; omega, fun x => ?_⟩
    · simp only [spec_l01Cuts.l0, if_pos (show p < (l.length : Int) by omega)]
      refine Ev.bind (RuneSize_ev hB (by omega) h0) ?_
      rw [er, wrap64_id (n := p + _) (by omega) (by omega)]
      simp only [if_neg (show ¬ (rs (l.drop p.toNat) : Int) = 0 by omega), if_pos (show acc.length < 17592186044416 by omega)]
      exact hC.eq (by simp)
    · rw [Bd.step hne hu, hd, List.mem_cons, hCm, show x - (p + (rs (l.drop p.toNat) : Int)) = x - p - (rs (l.drop p.toNat) : Int) by omega]
      constructor
      · rintro (h | h)
        · exact .inl (by omega)
        · exact .inr h
      · rintro (h | h)
        · exact .inl (by omega)
        · exact .inr h
theorem l01Cuts_no {l : List Int} (hB : B l) (hl : (l.length : Int) ≤ 1000000) : ∀ (n : Nat) (acc : List Int) (p : Int), 0 ≤ p → p ≤ (l.length : Int) → (l.length : Int) - p ≤ n → (acc.length : Int) ≤ p → ¬ Utf (l.drop p.toNat) →
    Ev (fun k => spec_l01Cuts.l0 k l acc p) [] := by
  intro n
  induction n with
  | zero =>
    intro acc p h0 h1 hn ha hu
    rw [List.drop_eq_nil_of_le (by omega)] at hu
    exact absurd .nil hu
  | succ n ih =>
    intro acc p h0 h1 hn ha hu
    by_cases hp : p = (l.length : Int)
    · rw [List.drop_eq_nil_of_le (by omega)] at hu
      exact absurd .nil hu
    have er : rsAt l p = (rs (l.drop p.toNat) : Int) := by rw [rsAt_drop h0 h1, rs_eq]
    have hle := rs_le (l.drop p.toNat)
    rw [List.length_drop] at hle
    have hd : (l.drop p.toNat).drop (rs (l.drop p.toNat)) = l.drop (p + (rs (l.drop p.toNat) : Int)).toNat := by rw [List.drop_drop, show (p + (rs (l.drop p.toNat) : Int)).toNat = p.toNat + rs (l.drop p.toNat) by omega]
    apply Ev.succ
    simp only [spec_l01Cuts.l0, if_pos (show p < (l.length : Int) by omega)]
    refine Ev.bind (RuneSize_ev hB (by omega) h0) ?_
    rw [er, wrap64_id (n := p + _) (by omega) (by omega)]
    by_cases c : rs (l.drop p.toNat) = 0
    · simp only [c, Int.natCast_zero, if_true]
      exact Ev.pure _
    · simp only [if_neg (show ¬ (rs (l.drop p.toNat) : Int) = 0 by omega), if_pos (show acc.length < 17592186044416 by omega)]
      refine ih _ _ (by omega) (by omega) (by omega) (by rw [List.length_append]; simp; omega) (fun h => hu (.cons _ c (hd ▸ h)))
open Classical in
theorem l01Cuts_ev {l : List Int} (hB : B l) : ∃ C, Ev (fun k => spec_l01Cuts.f k l) C ∧ (C ≠ [] ↔ (l.length : Int) ≤ 400 ∧ Utf l) ∧ ((l.length : Int) ≤ 400 → ∀ x, x ∈ C ↔ Bd l x) ∧ (¬ (l.length : Int) ≤ 400 → C = []) ∧ C.length ≤ 401 := by
  by_cases hl : (l.length : Int) > 400
  · refine ⟨[], ?_, ?_, fun h => by omega, fun _ => rfl, by simp⟩
    · simp only [spec_l01Cuts.f, if_pos hl]; exact Ev.pure _
    · constructor
      · intro h; exact absurd rfl h
      · intro h; omega
  have hf : ∀ k, spec_l01Cuts.f k l = spec_l01Cuts.l0 k l [] 0 := fun k => by simp only [spec_l01Cuts.f, if_neg hl]
  by_cases hu : Utf l
  · obtain ⟨C, h1, h2, h4, h3⟩ := l01Cuts_yes hB (by omega) l.length [] 0 (by omega) (by omega) (by omega) (by simp) (by simpa using hu)
    refine ⟨C, h1.congr hf, ⟨fun _ => ⟨by omega, hu⟩, fun _ => h2⟩, fun _ x => by simpa using h3 x, fun h => by omega, by omega⟩
  · refine ⟨[], (l01Cuts_no hB (by omega) l.length [] 0 (by omega) (by omega) (by omega) (by simp) (by simpa using hu)).congr hf, ⟨fun h => absurd rfl h, fun h => absurd h.2 hu⟩, fun _ x => ?_, fun _ => rfl, by simp⟩
    constructor
    · intro h; cases h
    · intro h; exact absurd h.utf hu
open Classical in
theorem TextOk_ev {l : List Int} (hB : B l) : Ev (fun k => spec_TextOk.f k l) (decide ((l.length : Int) ≤ 400 ∧ Utf l)) := by
  obtain ⟨C, h1, h2, _⟩ := l01Cuts_ev hB
  refine Ev.bind h1 ((Ev.pure _).eq ?_)
  apply decide_eq_decide.2
  rw [← h2]
  cases C <;> simp
theorem RunesTo_ev (C : List Int) (hl : (C.length : Int) ≤ 1000000000) (x : Int) : ∀ (n : Nat) (i : Int), 0 ≤ i → (C.length : Int) - i ≤ n → ∃ r, Ev (fun k => spec_RunesTo.l0 k x C i) r ∧ (0 ≤ r ↔ x ∈ C.drop i.toNat) := by
  intro n
  induction n with
  | zero =>
    intro i h0 hn
    refine ⟨-1, Ev.succ ?_, ?_⟩
    · simp only [spec_RunesTo.l0, if_neg (show ¬ i < (C.length : Int) by omega)]; exact Ev.pure _
    · rw [List.drop_eq_nil_of_le (by omega)]; simp
  | succ n ih =>
    intro i h0 hn
    by_cases c : i < (C.length : Int)
    · obtain ⟨r, hr, hm⟩ := ih (i + 1) (by omega) (by omega)
      by_cases e : rd C i = x
      · refine ⟨i, Ev.succ ?_, ?_⟩
        · simp only [spec_RunesTo.l0, if_pos c, if_pos h0, if_pos e]; exact Ev.pure _
        · rw [drop_cons h0 c, e]; simp [h0]
      · refine ⟨r, Ev.succ ?_, ?_⟩
        · simp only [spec_RunesTo.l0, if_pos c, if_pos h0, if_neg e, wrap64_id (n := i + 1) (by omega) (by omega)]; exact hr
        · rw [drop_cons h0 c, hm, List.mem_cons]
          constructor
          · exact .inr
          · rintro (h | h)
            · exact absurd h.symm e
            · exact h
    · refine ⟨-1, Ev.succ ?_, ?_⟩
      · simp only [spec_RunesTo.l0, if_neg c]; exact Ev.pure _
      · rw [List.drop_eq_nil_of_le (by omega)]; simp
open Classical in
theorem CutOk_ev {l : List Int} (hB : B l) (hl : (l.length : Int) ≤ 400) (x : Int) : Ev (fun k => spec_CutOk.f k l x) (decide (Bd l x)) := by
  obtain ⟨C, h1, h2, h3, _, h5⟩ := l01Cuts_ev hB
  obtain ⟨r, hr, hm⟩ := RunesTo_ev C (by omega) x C.length 0 (by omega) (by omega)
  refine Ev.bind (Ev.bind h1 hr) ((Ev.pure _).eq ?_)
  apply decide_eq_decide.2
  rw [ge_iff_le, hm]
  simpa using h3 hl x
theorem rd_gtab0 (j : Int) (h0 : 0 ≤ j) (h1 : j < 256) : rd gtab0 j = ((Lib.firstT j.toNat : Nat) : Int) := by
  unfold rd gtab0
  rw [List.getD_eq_getElem?_getD, List.getElem?_map, List.getElem?_range (show j.toNat < 256 by omega)]
  rfl
set_option maxRecDepth 100000 in
theorem and7 : ∀ X : Fin 256, bits .and .u8 ((X.val : Nat) : Int) 7 = ((X.val % 8 : Nat) : Int) := by decide
theorem firstT_lt (b : Nat) : Lib.firstT b < 256 := by unfold Lib.firstT; repeat' split
                                                       all_goals omega
def tsz (n b1 b2 b3 sz lo hi : Int) : Int :=
  if sz = 2 then (if n < 2 ∨ b1 < lo ∨ hi < b1 then 0 else 2)
  else if sz = 3 then (if n < 3 ∨ b1 < lo ∨ hi < b1 ∨ b2 < 128 ∨ 191 < b2 then 0 else 3)
  else if sz = 4 then (if n < 4 ∨ b1 < lo ∨ hi < b1 ∨ b2 < 128 ∨ 191 < b2 ∨ b3 < 128 ∨ 191 < b3 then 0 else 4)
  else 0
set_option maxHeartbeats 4000000 in
theorem tab_rsz (n b1 b2 b3 : Int) (b : Nat) (hn : 1 ≤ n) (h0 : 128 ≤ b) (h1 : b < 256) :
    rsz n b b1 b2 b3 = tsz n b1 b2 b3 ((Lib.firstT b % 8 : Nat) : Int) ((Lib.accLo (Lib.firstT b / 16) : Nat) : Int) ((Lib.accHi (Lib.firstT b / 16) : Nat) : Int) := by
  have key : ∀ X : Nat, Lib.firstT b = X → ∀ lo hi sz : Nat, Lib.accLo (X / 16) = lo → Lib.accHi (X / 16) = hi → X % 8 = sz → rsz n b b1 b2 b3 = tsz n b1 b2 b3 (sz : Int) (lo : Int) (hi : Int) → rsz n b b1 b2 b3 = tsz n b1 b2 b3 ((Lib.firstT b % 8 : Nat) : Int) ((Lib.accLo (Lib.firstT b / 16) : Nat) : Int) ((Lib.accHi (Lib.firstT b / 16) : Nat) : Int) := by
    intro X hX lo hi sz e1 e2 e3 h
    rw [hX, e1, e2, e3]; exact h
  have hf : Lib.firstT b = if b < 194 then 241 else if b < 224 then 2 else if b = 224 then 19 else if b < 237 then 3 else if b = 237 then 35 else if b < 240 then 3
      else if b = 240 then 52 else if b < 244 then 4 else if b = 244 then 68 else 241 := by unfold Lib.firstT; rw [if_neg (by omega)]
  have nn : ¬ n ≤ 0 := by omega
  by_cases c0 : b < 194
  · refine key 241 (by rw [hf, if_pos c0]) _ _ _ rfl rfl rfl ?_
    simp [tsz, rsz, nn]; omega
  by_cases c1 : b < 224
  · refine key 2 (by rw [hf, if_neg c0, if_pos c1]) 128 191 2 rfl rfl rfl ?_
    unfold tsz rsz; repeat' split
    all_goals omega
  by_cases c2 : b = 224
  · subst c2
    refine key 19 (by decide) 160 191 3 rfl rfl rfl ?_
    unfold tsz rsz; simp; repeat' split
    all_goals omega
  by_cases c3 : b < 237
  · refine key 3 (by rw [hf, if_neg c0, if_neg c1, if_neg c2, if_pos c3]) 128 191 3 rfl rfl rfl ?_
    unfold tsz rsz; rw [if_neg (show ¬ (b : Int) = 224 by omega), if_neg (show ¬ (b : Int) = 237 by omega)]; repeat' split
    all_goals omega
  by_cases c4 : b = 237
  · subst c4
    refine key 35 (by decide) 128 159 3 rfl rfl rfl ?_
    unfold tsz rsz; simp; repeat' split
    all_goals omega
  by_cases c5 : b < 240
  · refine key 3 (by rw [hf, if_neg c0, if_neg c1, if_neg c2, if_neg c3, if_neg c4, if_pos c5]) 128 191 3 rfl rfl rfl ?_
    unfold tsz rsz; rw [if_neg (show ¬ (b : Int) = 224 by omega), if_neg (show ¬ (b : Int) = 237 by omega)]; repeat' split
    all_goals omega
  by_cases c6 : b = 240
  · subst c6
    refine key 52 (by decide) 144 191 4 rfl rfl rfl ?_
    unfold tsz rsz; simp; repeat' split
    all_goals omega
  by_cases c7 : b < 244
  · refine key 4 (by rw [hf, if_neg c0, if_neg c1, if_neg c2, if_neg c3, if_neg c4, if_neg c5, if_neg c6, if_pos c7]) 128 191 4 rfl rfl rfl ?_
    unfold tsz rsz; rw [if_neg (show ¬ (b : Int) = 240 by omega), if_neg (show ¬ (b : Int) = 244 by omega)]; repeat' split
    all_goals omega
  by_cases c8 : b = 244
  · subst c8
    refine key 68 (by decide) 128 143 4 rfl rfl rfl ?_
    unfold tsz rsz; simp; repeat' split
    all_goals omega
  · refine key 241 (by rw [hf, if_neg c0, if_neg c1, if_neg c2, if_neg c3, if_neg c4, if_neg c5, if_neg c6, if_neg c7, if_neg c8]) _ _ _ rfl rfl rfl ?_
    simp [tsz, rsz, nn]; omega
def Asc (x : List Int) (n : Nat) : Prop := n ≤ x.length ∧ ∀ b ∈ x.take n, b < 128
theorem Utf_asc {x : List Int} (h : Utf x ↔ Utf x) (hB : B x) (hn : 1 ≤ x.length) (hb : rd x 0 < 128) : Utf x ↔ Utf (x.drop 1) := by
  have e : rs x = 1 := by
    unfold rs rsAt rsz
    rw [if_neg (by omega), if_pos hb]; rfl
  constructor
  · intro hu
    have := (hu.inv (by intro e; simp [e] at hn)).2
    rwa [e] at this
  · intro hu
    exact .cons _ (by omega) (by rwa [e])
theorem Utf_skip : ∀ (n : Nat) {x : List Int}, B x → Asc x n → (Utf x ↔ Utf (x.drop n))
  | 0, x, _, _ => by simp
  | n + 1, [], _, h => by have := h.1; simp at this
  | n + 1, b :: t, hB, h => by
    have hb : b < 128 := h.2 b (by simp)
    rw [Utf_asc Iff.rfl hB (by simp) (by simpa [rd] using hb)]
    simp only [List.drop_succ_cons, List.drop_zero]
    exact Utf_skip n hB.cons.2 ⟨by have := h.1; simp at this; omega, fun c hc => h.2 c (by simp [hc])⟩
theorem Asc.add {x : List Int} {a b : Nat} (ha : Asc x a) (hb : Asc (x.drop a) b) : Asc x (a + b) := by
  refine ⟨by have := hb.1; rw [List.length_drop] at this; have := ha.1; omega, ?_⟩
  intro c hc
  rw [List.take_add] at hc
  rcases List.mem_append.1 hc with h | h
  · exact ha.2 c h
  · exact hb.2 c h
set_option maxRecDepth 100000 in
theorem mask0 : ∀ X : Fin 256, (X.val) &&& 9259542123273814144 = 0 → X.val < 128 := by decide +kernel
set_option maxRecDepth 100000 in
theorem mask1 : ∀ X : Fin 256, (X.val * 256) &&& 9259542123273814144 = 0 → X.val < 128 := by decide +kernel
set_option maxRecDepth 100000 in
theorem mask2 : ∀ X : Fin 256, (X.val * 65536) &&& 9259542123273814144 = 0 → X.val < 128 := by decide +kernel
set_option maxRecDepth 100000 in
theorem mask3 : ∀ X : Fin 256, (X.val * 16777216) &&& 9259542123273814144 = 0 → X.val < 128 := by decide +kernel
set_option maxRecDepth 100000 in
theorem mask4 : ∀ X : Fin 256, (X.val * 4294967296) &&& 9259542123273814144 = 0 → X.val < 128 := by decide +kernel
set_option maxRecDepth 100000 in
theorem mask5 : ∀ X : Fin 256, (X.val * 1099511627776) &&& 9259542123273814144 = 0 → X.val < 128 := by decide +kernel
set_option maxRecDepth 100000 in
theorem mask6 : ∀ X : Fin 256, (X.val * 281474976710656) &&& 9259542123273814144 = 0 → X.val < 128 := by decide +kernel
set_option maxRecDepth 100000 in
theorem mask7 : ∀ X : Fin 256, (X.val * 72057594037927936) &&& 9259542123273814144 = 0 → X.val < 128 := by decide +kernel
theorem wrapN {n : Nat} (h : n < 18446744073709551616) : IntKind.u64.wrap (n : Int) = (n : Int) := by
  simp [IntKind.wrap, IntKind.bits, IntKind.signed]
  omega
theorem wrapM {n m : Nat} {c : Int} (hc : c = (m : Int)) (h : n * m < 18446744073709551616) : IntKind.u64.wrap ((n : Int) * c) = ((n * m : Nat) : Int) := by
  have e : ((n : Int) * c) = ((n * m : Nat) : Int) := by rw [hc]; simp
  rw [e]
  exact wrapN h
theorem or64 {a b : Nat} (ha : a < 18446744073709551616) (hb : b < 18446744073709551616) : a ||| b < 18446744073709551616 := Nat.or_lt_two_pow (n := 64) ha hb
theorem word_of (n0 n1 n2 n3 n4 n5 n6 n7 : Nat) (t : List Int) (h0 : n0 < 256) (h1 : n1 < 256) (h2 : n2 < 256) (h3 : n3 < 256) (h4 : n4 < 256) (h5 : n5 < 256) (h6 : n6 < 256) (h7 : n7 < 256) :
    utf8_word_byte.f ((n0 : Int) :: n1 :: n2 :: n3 :: n4 :: n5 :: n6 :: n7 :: t) = some ((n0 ||| n1 * 256 ||| n2 * 65536 ||| n3 * 16777216 ||| n4 * 4294967296 ||| n5 * 1099511627776 ||| n6 * 281474976710656 ||| n7 * 72057594037927936 : Nat) : Int) := by
  have L : ∀ i : Int, i < 8 → i < ((((n0 : Int) :: n1 :: n2 :: n3 :: n4 :: n5 :: n6 :: n7 :: t).length : Nat) : Int) := by intro i hi; simp; omega
  have b0 : n0 < 18446744073709551616 := by omega
  have b1 : n1 * 256 < 18446744073709551616 := Nat.lt_of_lt_of_le (Nat.mul_lt_mul_of_pos_right h1 (by decide)) (by decide)
  have b2 : n2 * 65536 < 18446744073709551616 := Nat.lt_of_lt_of_le (Nat.mul_lt_mul_of_pos_right h2 (by decide)) (by decide)
  have b3 : n3 * 16777216 < 18446744073709551616 := Nat.lt_of_lt_of_le (Nat.mul_lt_mul_of_pos_right h3 (by decide)) (by decide)
  have b4 : n4 * 4294967296 < 18446744073709551616 := Nat.lt_of_lt_of_le (Nat.mul_lt_mul_of_pos_right h4 (by decide)) (by decide)
  have b5 : n5 * 1099511627776 < 18446744073709551616 := Nat.lt_of_lt_of_le (Nat.mul_lt_mul_of_pos_right h5 (by decide)) (by decide)
  have b6 : n6 * 281474976710656 < 18446744073709551616 := Nat.lt_of_lt_of_le (Nat.mul_lt_mul_of_pos_right h6 (by decide)) (by decide)
  have b7 : n7 * 72057594037927936 < 18446744073709551616 := Nat.lt_of_lt_of_le (Nat.mul_lt_mul_of_pos_right h7 (by decide)) (by decide)
  unfold utf8_word_byte.f
  rw [if_pos (L 0 (by omega)), if_pos (L 1 (by omega)), if_pos (L 2 (by omega)), if_pos (L 3 (by omega)), if_pos (L 4 (by omega)), if_pos (L 5 (by omega)), if_pos (L 6 (by omega)), if_pos (L 7 (by omega))]
  have r0 : rd ((n0 : Int) :: n1 :: n2 :: n3 :: n4 :: n5 :: n6 :: n7 :: t) 0 = n0 := rfl
  have r1 : rd ((n0 : Int) :: n1 :: n2 :: n3 :: n4 :: n5 :: n6 :: n7 :: t) 1 = n1 := rfl
  have r2 : rd ((n0 : Int) :: n1 :: n2 :: n3 :: n4 :: n5 :: n6 :: n7 :: t) 2 = n2 := rfl
  have r3 : rd ((n0 : Int) :: n1 :: n2 :: n3 :: n4 :: n5 :: n6 :: n7 :: t) 3 = n3 := rfl
  have r4 : rd ((n0 : Int) :: n1 :: n2 :: n3 :: n4 :: n5 :: n6 :: n7 :: t) 4 = n4 := rfl
  have r5 : rd ((n0 : Int) :: n1 :: n2 :: n3 :: n4 :: n5 :: n6 :: n7 :: t) 5 = n5 := rfl
  have r6 : rd ((n0 : Int) :: n1 :: n2 :: n3 :: n4 :: n5 :: n6 :: n7 :: t) 6 = n6 := rfl
  have r7 : rd ((n0 : Int) :: n1 :: n2 :: n3 :: n4 :: n5 :: n6 :: n7 :: t) 7 = n7 := rfl
  rw [r0, r1, r2, r3, r4, r5, r6, r7]
  rw [wrapN (n := n0) (by omega), wrapN (n := n1) (by omega), wrapN (n := n2) (by omega), wrapN (n := n3) (by omega), wrapN (n := n4) (by omega), wrapN (n := n5) (by omega), wrapN (n := n6) (by omega), wrapN (n := n7) (by omega)]
  rw [wrapM (c := 256) (m := 256) rfl b1, wrapM (c := 65536) (m := 65536) rfl b2, wrapM (c := 16777216) (m := 16777216) rfl b3, wrapM (c := 4294967296) (m := 4294967296) rfl b4, wrapM (c := 1099511627776) (m := 1099511627776) rfl b5, wrapM (c := 281474976710656) (m := 281474976710656) rfl b6, wrapM (c := 72057594037927936) (m := 72057594037927936) rfl b7]
  have c1 := or64 b0 b1
  have c2 := or64 c1 b2
  have c3 := or64 c2 b3
  have c4 := or64 c3 b4
  have c5 := or64 c4 b5
  have c6 := or64 c5 b6
  rw [u64_or_nat _ _ b0 b1, u64_or_nat _ _ c1 b2, u64_or_nat _ _ c2 b3, u64_or_nat _ _ c3 b4, u64_or_nat _ _ c4 b5, u64_or_nat _ _ c5 b6, u64_or_nat _ _ c6 b7]
theorem word_ev {x : List Int} (hB : B x) (h8 : 8 ≤ x.length) : ∃ v : Nat, utf8_word_byte.f x = some (v : Int) ∧ v < 18446744073709551616 ∧ (v &&& 9259542123273814144 = 0 → Asc x 8) := by
  obtain ⟨x0, x1, x2, x3, x4, x5, x6, x7, t, rfl⟩ : ∃ x0 x1 x2 x3 x4 x5 x6 x7 t, x = x0 :: x1 :: x2 :: x3 :: x4 :: x5 :: x6 :: x7 :: t := by
    match x, h8 with
    | x0 :: x1 :: x2 :: x3 :: x4 :: x5 :: x6 :: x7 :: t, _ => exact ⟨_, _, _, _, _, _, _, _, _, rfl⟩
  have g0 := hB x0 (by simp)
  obtain ⟨n0, rfl⟩ := Int.eq_ofNat_of_zero_le g0.1
  have g1 := hB x1 (by simp)
  obtain ⟨n1, rfl⟩ := Int.eq_ofNat_of_zero_le g1.1
  have g2 := hB x2 (by simp)
  obtain ⟨n2, rfl⟩ := Int.eq_ofNat_of_zero_le g2.1
  have g3 := hB x3 (by simp)
  obtain ⟨n3, rfl⟩ := Int.eq_ofNat_of_zero_le g3.1
  have g4 := hB x4 (by simp)
  obtain ⟨n4, rfl⟩ := Int.eq_ofNat_of_zero_le g4.1
  have g5 := hB x5 (by simp)
  obtain ⟨n5, rfl⟩ := Int.eq_ofNat_of_zero_le g5.1
  have g6 := hB x6 (by simp)
  obtain ⟨n6, rfl⟩ := Int.eq_ofNat_of_zero_le g6.1
  have g7 := hB x7 (by simp)
  obtain ⟨n7, rfl⟩ := Int.eq_ofNat_of_zero_le g7.1
  refine ⟨_, word_of n0 n1 n2 n3 n4 n5 n6 n7 t (by omega) (by omega) (by omega) (by omega) (by omega) (by omega) (by omega) (by omega), ?_, ?_⟩
  · have bb : ∀ n m : Nat, n < 256 → 256 * m ≤ 18446744073709551616 → 0 < m → n * m < 18446744073709551616 := fun n m h1 h2 h3 => Nat.lt_of_lt_of_le (Nat.mul_lt_mul_of_pos_right h1 h3) h2
    exact or64 (or64 (or64 (or64 (or64 (or64 (or64 (Nat.lt_of_lt_of_le (show n0 < 256 by omega) (by decide)) (bb n1 _ (by omega) (by decide) (by decide))) (bb n2 _ (by omega) (by decide) (by decide))) (bb n3 _ (by omega) (by decide) (by decide))) (bb n4 _ (by omega) (by decide) (by decide))) (bb n5 _ (by omega) (by decide) (by decide))) (bb n6 _ (by omega) (by decide) (by decide))) (bb n7 _ (by omega) (by decide) (by decide))
  · intro h
    simp only [Lib.or_mask] at h
    obtain ⟨⟨⟨⟨⟨⟨⟨m0, m1⟩, m2⟩, m3⟩, m4⟩, m5⟩, m6⟩, m7⟩ := h
    have k0 := mask0 ⟨n0, by omega⟩ m0
    have k1 := mask1 ⟨n1, by omega⟩ m1
    have k2 := mask2 ⟨n2, by omega⟩ m2
    have k3 := mask3 ⟨n3, by omega⟩ m3
    have k4 := mask4 ⟨n4, by omega⟩ m4
    have k5 := mask5 ⟨n5, by omega⟩ m5
    have k6 := mask6 ⟨n6, by omega⟩ m6
    have k7 := mask7 ⟨n7, by omega⟩ m7
    refine ⟨by simp, fun c hc => ?_⟩
    simp at hc k0 k1 k2 k3 k4 k5 k6 k7
    omega
end Go.Proofs.YteapbiiffcchbaaDoor.V
namespace Go.Proofs.YteapbiiffcchbaaDoor.V
open Go.RowKit Go.Proofs.YteapbiiffcchbaaDoorW.PrintWords Go.Proofs.YteapbiiffcchbaaDoorW.PrintMore Go.Proofs.YteapbiiffcchbaaDoor.P Go.Proofs.YteapbiiffcchbaaDoor.G
set_option linter.unusedVariables false
set_option linter.unusedSimpArgs false
open Classical
def VL (x : List Int) : Prop := Ev (fun k => utf8_Valid.l0 k x) (decide (Utf x))
def VM (x : List Int) : Prop := Ev (fun k => utf8_Valid.l1 k x) (decide (Utf x))
theorem Utf_rs {x : List Int} (hne : x ≠ []) : Utf x ↔ rs x ≠ 0 ∧ Utf (x.drop (rs x)) := ⟨fun h => h.inv hne, fun h => .cons _ h.1 h.2⟩
theorem v5 {x : List Int} (hne : x ≠ []) (f : Bool) (ht : f = true → rs x = 0) (hf : f = false → rs x = 2 ∧ VL (x.drop 2)) : Ev (fun k => utf8_Valid.j5 k x f) (decide (Utf x)) := by
  apply Ev.succ
  cases f with
  | true =>
    simp only [utf8_Valid.j5, if_true]
    refine (Ev.pure _).eq ?_
    rw [eq_comm, decide_eq_false_iff_not, Utf_rs hne, ht rfl]; simp
  | false =>
    obtain ⟨h1, h2⟩ := hf rfl
    have := rs_le x
    simp only [utf8_Valid.j5, Bool.false_eq_true, if_false, if_pos (show 2 ≤ (x.length : Int) by omega)]
    refine Ev.eq h2 ?_
    apply decide_eq_decide.2
    rw [Utf_rs hne, h1]; simp
theorem v6 {x : List Int} (hne : x ≠ []) (f : Bool) (ht : f = true → rs x = 0) (hf : f = false → rs x = 3 ∧ VL (x.drop 3)) : Ev (fun k => utf8_Valid.j6 k x f) (decide (Utf x)) := by
  apply Ev.succ
  cases f with
  | true =>
    simp only [utf8_Valid.j6, if_true]
    refine (Ev.pure _).eq ?_
    rw [eq_comm, decide_eq_false_iff_not, Utf_rs hne, ht rfl]; simp
  | false =>
    obtain ⟨h1, h2⟩ := hf rfl
    have := rs_le x
    simp only [utf8_Valid.j6, Bool.false_eq_true, if_false, if_pos (show 3 ≤ (x.length : Int) by omega)]
    refine Ev.eq h2 ?_
    apply decide_eq_decide.2
    rw [Utf_rs hne, h1]; simp
theorem v7 {x : List Int} (hne : x ≠ []) (f : Bool) (ht : f = true → rs x = 0) (hf : f = false → rs x = 4 ∧ VL (x.drop 4)) : Ev (fun k => utf8_Valid.j7 k x f) (decide (Utf x)) := by
  apply Ev.succ
  cases f with
  | true =>
    simp only [utf8_Valid.j7, if_true]
    refine (Ev.pure _).eq ?_
    rw [eq_comm, decide_eq_false_iff_not, Utf_rs hne, ht rfl]; simp
  | false =>
    obtain ⟨h1, h2⟩ := hf rfl
    have := rs_le x
    simp only [utf8_Valid.j7, Bool.false_eq_true, if_false, if_pos (show 4 ≤ (x.length : Int) by omega)]
    refine Ev.eq h2 ?_
    apply decide_eq_decide.2
    rw [Utf_rs hne, h1]; simp
theorem skip_ev {x : List Int} {f : Nat → Option Bool} (hB : B x) {n : Nat} (ha : Asc x n) (h : Ev f (decide (Utf (x.drop n)))) : Ev f (decide (Utf x)) :=
  h.eq (decide_eq_decide.2 (Utf_skip n hB ha).symm)
theorem and_word {v : Nat} (hv : v < 18446744073709551616) : (bits .and .u64 (v : Int) 9259542123273814144 == 0) = decide (v &&& 9259542123273814144 = 0) := by
  have e := u64_and_nat v 9259542123273814144 hv (by omega)
  rw [show ((9259542123273814144 : Nat) : Int) = 9259542123273814144 from rfl] at e
  rw [e]
  by_cases c : v &&& 9259542123273814144 = 0
  · simp [c]
  · simp only [c, decide_false, beq_eq_false_iff_ne, ne_eq]
    intro h; apply c; exact Int.ofNat.inj h
theorem v1 {x : List Int} (hB : B x) (h0 : VL x) (hrest : ∀ n : Nat, 8 ≤ n → n ≤ x.length → VL (x.drop n) ∧ VM (x.drop n)) (f : Bool) (hf : f = true → Asc x 8) : Ev (fun k => utf8_Valid.j1 k x f) (decide (Utf x)) := by
  apply Ev.succ
  cases f with
  | false => simp only [utf8_Valid.j1, Bool.false_eq_true, if_false]; exact h0
  | true =>
    have ha := hf rfl
    have hlen := ha.1
    simp only [utf8_Valid.j1, if_true, if_pos (show 8 ≤ (x.length : Int) by omega), Option.bind_some]
    have hB8 := hB.drop 8
    have hl8 : (x.drop 8).length = x.length - 8 := List.length_drop
    by_cases c : ((x.drop 8).length : Int) > 16
    · obtain ⟨v, hv, hlt, hva⟩ := word_ev hB8 (by omega)
      obtain ⟨u, hu, hut, hua⟩ := word_ev (hB8.drop 8) (by rw [List.length_drop]; omega)
      simp only [if_pos c, hv, hu, Option.bind_some, if_pos (show 8 ≤ ((x.drop 8).length : Int) by omega), u64_or_nat _ _ hlt hut, and_word (or64 hlt hut)]
      apply Ev.succ
      by_cases d : (v ||| u) &&& 9259542123273814144 = 0
      · have d' := (Lib.or_mask _ _ _).1 d
        simp only [d, decide_true, utf8_Valid.j2, if_true, if_pos (show 16 ≤ ((x.drop 8).length : Int) by omega), List.drop_drop]
        exact skip_ev hB (ha.add ((hva d'.1).add (hua d'.2))) (hrest 24 (by omega) (by omega)).2
      · simp only [d, decide_false, utf8_Valid.j2, Bool.false_eq_true, if_false]
        exact skip_ev hB ha (hrest 8 (by omega) (by omega)).1
    · simp only [if_neg c]
      apply Ev.succ
      simp only [utf8_Valid.j2, Bool.false_eq_true, if_false]
      exact skip_ev hB ha (hrest 8 (by omega) (by omega)).1
theorem vm {x : List Int} (hB : B x) (h0 : VL x) (hrest : x.length > 32 → VM (x.drop 32)) : VM x := by
  apply Ev.succ
  by_cases c : (x.length : Int) > 32
  · obtain ⟨v0, e0, l0, a0⟩ := word_ev hB (by omega)
    obtain ⟨v1, e1, l1, a1⟩ := word_ev (hB.drop 8) (by rw [List.length_drop]; omega)
    obtain ⟨v2, e2, l2, a2⟩ := word_ev (hB.drop 16) (by rw [List.length_drop]; omega)
    obtain ⟨v3, e3, l3, a3⟩ := word_ev (hB.drop 24) (by rw [List.length_drop]; omega)
    simp only [utf8_Valid.l1, if_pos c, e0, e1, e2, e3, Option.bind_some, if_pos (show 8 ≤ (x.length : Int) by omega), if_pos (show 16 ≤ (x.length : Int) by omega), if_pos (show 24 ≤ (x.length : Int) by omega), u64_or_nat _ _ l0 l1, u64_or_nat _ _ l2 l3, u64_or_nat _ _ (or64 l0 l1) (or64 l2 l3), and_word (or64 (or64 l0 l1) (or64 l2 l3))]
    apply Ev.succ
    by_cases d : (v0 ||| v1 ||| (v2 ||| v3)) &&& 9259542123273814144 = 0
    · have d' := (Lib.or_mask _ _ _).1 d
      have d1 := (Lib.or_mask _ _ _).1 d'.1
      have d2 := (Lib.or_mask _ _ _).1 d'.2
      simp only [d, decide_true, utf8_Valid.j4, if_true, if_pos (show 32 ≤ (x.length : Int) by omega)]
      have q3 := a3 d2.2
      have q2 : Asc (x.drop 16) (8 + 8) := (a2 d2.1).add (by rw [List.drop_drop]; exact q3)
      have q1 : Asc (x.drop 8) (8 + (8 + 8)) := (a1 d1.2).add (by rw [List.drop_drop]; exact q2)
      exact skip_ev hB (n := 32) ((a0 d1.1).add q1) (hrest (by omega))
    · simp only [d, decide_false, utf8_Valid.j4, Bool.false_eq_true, if_false]
      exact h0
  · simp only [utf8_Valid.l1, if_neg c]
    apply Ev.succ
    simp only [utf8_Valid.j4, Bool.false_eq_true, if_false]
    exact h0
set_option maxHeartbeats 4000000 in
theorem vl {x : List Int} (hB : B x) (hrest : ∀ n : Nat, 1 ≤ n → n ≤ x.length → VL (x.drop n) ∧ VM (x.drop n)) : VL x := by
  apply Ev.succ
  by_cases hn : (x.length : Int) > 0
  · have hne : x ≠ [] := by intro e; subst e; simp at hn
    obtain ⟨b0, hb0⟩ : ∃ b, rd x 0 = b := ⟨_, rfl⟩
    have B0 := hB.rd 0
    rw [hb0] at B0
    simp only [utf8_Valid.l0, if_pos hn, hb0]
    by_cases c : b0 < 128
    · simp only [if_pos c, if_pos (show 1 ≤ (x.length : Int) by omega), Option.bind_some]
      have a1 : Asc x 1 := by
        refine ⟨by omega, fun d hd => ?_⟩
        obtain ⟨y, t, rfl⟩ := List.exists_cons_of_ne_nil hne
        simp at hd
        subst hd
        have : rd (d :: t) 0 = d := rfl
        omega
      refine skip_ev hB a1 ?_
      have h1 := (hrest 1 (by omega) (by omega)).1
      have hr : ∀ n : Nat, 8 ≤ n → n ≤ (x.drop 1).length → VL ((x.drop 1).drop n) ∧ VM ((x.drop 1).drop n) := fun n h8 hl => by
        rw [List.drop_drop]; exact hrest (1 + n) (by omega) (by rw [List.length_drop] at hl; omega)
      by_cases d : ((x.drop 1).length : Int) > 8
      · obtain ⟨v, hv, hlt, hva⟩ := word_ev (hB.drop 1) (by omega)
        simp only [if_pos d, hv, Option.bind_some, and_word hlt]
        exact v1 (hB.drop 1) h1 hr _ (fun h => hva (by simpa using h))
      · simp only [if_neg d]
        exact v1 (hB.drop 1) h1 hr false (fun h => by cases h)
    · obtain ⟨n0, rfl⟩ := Int.eq_ofNat_of_zero_le B0.1
      obtain ⟨X, hX⟩ : ∃ X, Lib.firstT n0 = X := ⟨_, rfl⟩
      have hXl : X < 256 := by rw [← hX]; exact firstT_lt _
      have er : rsAt x 0 = tsz (x.length : Int) (rd x 1) (rd x 2) (rd x 3) ((X % 8 : Nat) : Int) ((Lib.accLo (X / 16) : Nat) : Int) ((Lib.accHi (X / 16) : Nat) : Int) := by
        have := tab_rsz ((x.length : Int) - 0) (rd x 1) (rd x 2) (rd x 3) n0 (by omega) (by omega) (by omega)
        rw [hX] at this
        unfold rsAt
        rw [hb0]
        simpa using this
      have es : rs x = (rsAt x 0).toNat := rfl
      have e7 := and7 ⟨X, hXl⟩
      simp only at e7
      have e1 : rd_T161 gtab1 ((X : Int) / 16) = ⟨((Lib.accLo (X / 16) : Nat) : Int), ((Lib.accHi (X / 16) : Nat) : Int)⟩ := by
        rw [rd_gtab1 _ (by omega) (by omega), show ((X : Int) / 16).toNat = X / 16 by omega]
      simp only [if_neg c, if_pos B0.1, if_pos (show (n0 : Int) < 256 by omega), rd_gtab0 (n0 : Int) B0.1 (by omega), Int.toNat_natCast, hX, e7, e1, if_pos (show 0 ≤ (X : Int) / 16 by omega), if_pos (show (X : Int) / 16 < 16 by omega), wrap64_id (n := ((X % 8 : Nat) : Int)) (by omega) (by omega)]
      generalize ((Lib.accLo (X / 16) : Nat) : Int) = lo at er ⊢
      generalize ((Lib.accHi (X / 16) : Nat) : Int) = hi at er ⊢
      generalize ((X % 8 : Nat) : Int) = sz at er ⊢
      clear e1 e7 hX hXl
      have hr : ∀ n : Nat, 1 ≤ n → n ≤ x.length → VL (x.drop n) := fun n h1 h2 => (hrest n h1 h2).1
      by_cases s2 : sz = 2
      · subst s2
        simp only [if_true]
        have er2 : rsAt x 0 = if (x.length : Int) < 2 ∨ rd x 1 < lo ∨ hi < rd x 1 then 0 else 2 := er
        by_cases q0 : (x.length : Int) < 2
        · simp only [if_pos q0]
          exact v5 hne true (fun _ => by rw [es, er2, if_pos (.inl q0)]; rfl) (fun h => by cases h)
        simp only [if_neg q0, if_pos (show 1 < (x.length : Int) by omega)]
        by_cases q1 : rd x 1 < lo
        · simp only [if_pos q1]
          exact v5 hne true (fun _ => by rw [es, er2, if_pos (.inr (.inl q1))]; rfl) (fun h => by cases h)
        simp only [if_neg q1]
        exact v5 hne _ (fun h => by rw [es, er2, if_pos (.inr (.inr (by simpa using h)))]; rfl) (fun h => by
          have h' : ¬ hi < rd x 1 := by simpa using h
          rw [es, er2, if_neg (by omega)]; exact ⟨rfl, hr 2 (by omega) (by omega)⟩)
      simp only [if_neg s2]
      by_cases s3 : sz = 3
      · subst s3
        simp only [if_true]
        have er2 : rsAt x 0 = if (x.length : Int) < 3 ∨ rd x 1 < lo ∨ hi < rd x 1 ∨ rd x 2 < 128 ∨ 191 < rd x 2 then 0 else 3 := er
        by_cases q0 : (x.length : Int) < 3
        · simp only [if_pos q0]
          exact v6 hne true (fun _ => by rw [es, er2, if_pos (.inl q0)]; rfl) (fun h => by cases h)
        simp only [if_neg q0, if_pos (show 1 < (x.length : Int) by omega), if_pos (show 2 < (x.length : Int) by omega)]
        by_cases q1 : rd x 1 < lo
        · simp only [if_pos q1]
          exact v6 hne true (fun _ => by rw [es, er2, if_pos (by omega)]; rfl) (fun h => by cases h)
        simp only [if_neg q1]
        by_cases q2 : hi < rd x 1
        · simp only [if_pos q2]
          exact v6 hne true (fun _ => by rw [es, er2, if_pos (by omega)]; rfl) (fun h => by cases h)
        simp only [if_neg q2]
        by_cases q3 : rd x 2 < 128
        · simp only [if_pos q3]
          exact v6 hne true (fun _ => by rw [es, er2, if_pos (by omega)]; rfl) (fun h => by cases h)
        simp only [if_neg q3]
        exact v6 hne _ (fun h => by
          have h' : 191 < rd x 2 := by simpa using h
          rw [es, er2, if_pos (by omega)]; rfl) (fun h => by
          have h' : ¬ 191 < rd x 2 := by simpa using h
          rw [es, er2, if_neg (by omega)]; exact ⟨rfl, hr 3 (by omega) (by omega)⟩)
      simp only [if_neg s3]
      by_cases s4 : sz = 4
      · subst s4
        simp only [if_true]
        have er2 : rsAt x 0 = if (x.length : Int) < 4 ∨ rd x 1 < lo ∨ hi < rd x 1 ∨ rd x 2 < 128 ∨ 191 < rd x 2 ∨ rd x 3 < 128 ∨ 191 < rd x 3 then 0 else 4 := er
        by_cases q0 : (x.length : Int) < 4
        · simp only [if_pos q0]
          exact v7 hne true (fun _ => by rw [es, er2, if_pos (.inl q0)]; rfl) (fun h => by cases h)
        simp only [if_neg q0, if_pos (show 1 < (x.length : Int) by omega), if_pos (show 2 < (x.length : Int) by omega), if_pos (show 3 < (x.length : Int) by omega)]
        by_cases q1 : rd x 1 < lo
        · simp only [if_pos q1]
          exact v7 hne true (fun _ => by rw [es, er2, if_pos (by omega)]; rfl) (fun h => by cases h)
        simp only [if_neg q1]
        by_cases q2 : hi < rd x 1
        · simp only [if_pos q2]
          exact v7 hne true (fun _ => by rw [es, er2, if_pos (by omega)]; rfl) (fun h => by cases h)
        simp only [if_neg q2]
        by_cases q3 : rd x 2 < 128
        · simp only [if_pos q3]
          exact v7 hne true (fun _ => by rw [es, er2, if_pos (by omega)]; rfl) (fun h => by cases h)
        simp only [if_neg q3]
        by_cases q4 : 191 < rd x 2
        · simp only [if_pos q4]
          exact v7 hne true (fun _ => by rw [es, er2, if_pos (by omega)]; rfl) (fun h => by cases h)
        simp only [if_neg q4]
        by_cases q5 : rd x 3 < 128
        · simp only [if_pos q5]
          exact v7 hne true (fun _ => by rw [es, er2, if_pos (by omega)]; rfl) (fun h => by cases h)
        simp only [if_neg q5]
        exact v7 hne _ (fun h => by
          have h' : 191 < rd x 3 := by simpa using h
          rw [es, er2, if_pos (by omega)]; rfl) (fun h => by
          have h' : ¬ 191 < rd x 3 := by simpa using h
          rw [es, er2, if_neg (by omega)]; exact ⟨rfl, hr 4 (by omega) (by omega)⟩)
      simp only [if_neg s4]
      refine (Ev.pure _).eq ?_
      rw [eq_comm, decide_eq_false_iff_not, Utf_rs hne, es, er]
      unfold tsz
      rw [if_neg s2, if_neg s3, if_neg s4]; simp
  · have : x = [] := by cases x; rfl; simp at hn
    subst this
    simp only [utf8_Valid.l0, if_neg hn]
    refine (Ev.pure _).eq ?_
    simp [Utf.nil]
theorem vboth : ∀ (n : Nat) (x : List Int), x.length ≤ n → B x → VL x ∧ VM x := by
  intro n
  induction n with
  | zero =>
    intro x hx hB
    have : VL x := vl hB (fun m h1 h2 => by omega)
    exact ⟨this, vm hB this (fun h => by omega)⟩
  | succ n ih =>
    intro x hx hB
    have hr : ∀ m : Nat, 1 ≤ m → m ≤ x.length → VL (x.drop m) ∧ VM (x.drop m) := fun m h1 h2 => ih _ (by rw [List.length_drop]; omega) (hB.drop m)
    have : VL x := vl hB hr
    exact ⟨this, vm hB this (fun h => (hr 32 (by omega) (by omega)).2)⟩
theorem Valid_ev {l : List Int} (hB : B l) : Ev (fun k => utf8_Valid.f k l) (decide (Utf l)) := by
  have h := (vboth l.length l (Nat.le_refl _) hB).1
  refine Ev.congr h fun k => ?_
  simp [utf8_Valid.f]
end Go.Proofs.YteapbiiffcchbaaDoor.V
namespace Go.Proofs.YteapbiiffcchbaaDoor.P
open Go.Proofs.YteapbiiffcchbaaDoor.G
open Go.RowKit Go.Proofs.YteapbiiffcchbaaDoorW.PrintWords Go.Proofs.YteapbiiffcchbaaDoorW.PrintLast Go.Proofs.YteapbiiffcchbaaDoorW.PrintMore
attribute [local go_sem] max2_int min2_int max_two min_two max_three min_three max_four min_four
end Go.Proofs.YteapbiiffcchbaaDoor.P
namespace Go.Proofs.YteapbiiffcchbaaDoor.V
open Go.RowKit Go.Proofs.YteapbiiffcchbaaDoorW.PrintWords Go.Proofs.YteapbiiffcchbaaDoorW.PrintMore Go.Proofs.YteapbiiffcchbaaDoor.P Go.Proofs.YteapbiiffcchbaaDoor.G
set_option linter.unusedVariables false
set_option linter.unusedSimpArgs false
open Classical
def EOk (l : List Int) (a c : Int) (m : List Int) : Prop :=
  (l.length : Int) ≤ 400 ∧ Bd l a ∧ 0 ≤ c ∧ c ≤ (l.length : Int) - a ∧ Bd l (a + c) ∧ (m.length : Int) ≤ 400 ∧ Utf m ∧ (l.length : Int) - c + (m.length : Int) ≤ 400
noncomputable def edo (l : List Int) (a c : Int) (m : List Int) : List Int × Bool := if EOk l a c m then (l.take a.toNat ++ m ++ l.drop (a + c).toNat, true) else ([], false)
theorem EditOk_ev {l m : List Int} (hB : B l) (hm : B m) (a c : Int) : Ev (fun k => spec_EditOk.f k l a c m) (decide (EOk l a c m)) := by
  have no : ∀ {v : Bool}, v = true → ¬ EOk l a c m → Ev (fun k => spec_EditOk.j0 k l v a c m) (decide (EOk l a c m)) := fun hv h => by
    subst hv
    apply Ev.succ
    simp only [spec_EditOk.j0, if_true]
    exact (Ev.pure _).eq (by simp [h])
  refine Ev.bind (TextOk_ev hB) (Ev.ite (fun h => ?_) (fun h => no rfl (fun e => h (by simp; exact ⟨e.1, e.2.1.utf⟩))))
  simp only [decide_eq_true_eq] at h
  refine Ev.bind (CutOk_ev hB h.1 a) (Ev.ite (fun h1 => ?_) (fun h1 => no rfl (fun e => h1 (by simp; exact e.2.1))))
  simp only [decide_eq_true_eq] at h1
  have hr := h1.range
  refine Ev.ite (fun h2 => no rfl (fun e => by have := e.2.2.1; omega)) (fun h2 => ?_)
  rw [wrap64_id (n := (l.length : Int) - a) (by omega) (by omega)]
  refine Ev.ite (fun h3 => no rfl (fun e => by have := e.2.2.2.1; omega)) (fun h3 => ?_)
  rw [wrap64_id (n := a + c) (by omega) (by omega)]
  refine Ev.bind (CutOk_ev hB h.1 (a + c)) (Ev.ite (fun h4 => ?_) (fun h4 => no rfl (fun e => h4 (by simp; exact e.2.2.2.2.1))))
  simp only [decide_eq_true_eq] at h4
  refine Ev.bind (TextOk_ev hm) ?_
  by_cases h5 : (m.length : Int) ≤ 400 ∧ Utf m
  · apply Ev.succ
    simp only [spec_EditOk.j0, h5, and_self, decide_true, Bool.not_true, Bool.false_eq_true, if_false]
    refine (Ev.pure _).eq (decide_eq_decide.2 ?_)
    rw [wrap64_id (n := (l.length : Int) - c) (by omega) (by omega), wrap64_id (n := (l.length : Int) - c + _) (by omega) (by omega)]
    exact ⟨fun e => ⟨h.1, h1, by omega, by omega, h4, h5.1, h5.2, e⟩, fun e => e.2.2.2.2.2.2.2⟩
  · exact no (by simp only [decide_eq_false h5]; rfl) (fun e => h5 ⟨e.2.2.2.2.2.1, e.2.2.2.2.2.2.1⟩)
theorem EditDo_ev {l m : List Int} (hB : B l) (hm : B m) (a c : Int) : Ev (fun k => spec_EditDo.f k l a c m) (edo l a c m) := by
  refine Ev.bind (EditOk_ev hB hm a c) ?_
  unfold edo
  by_cases h : EOk l a c m
  · have h1 := h.1
    have hr := h.2.1.range
    have h2 := h.2.2.1
    have h3 := h.2.2.2.1
    have h4 := h.2.2.2.2.2.1
    simp only [h, decide_true, if_true, Option.bind_some, List.nil_append, List.length_nil, if_pos hr.1, if_pos hr.2]
    rw [wrap64_id (n := a + c) (by omega) (by omega)]
    have e1 : (l.take a.toNat).length ≤ 400 := by rw [List.length_take]; omega
    have e2 : (l.drop (a + c).toNat).length ≤ 400 := by rw [List.length_drop]; omega
    simp only [if_pos (show 0 + (l.take a.toNat).length < 140737488355328 by omega), if_pos (show (l.take a.toNat).length + m.length < 140737488355328 by omega), if_pos (show 0 ≤ a + c by omega), if_pos (show a + c ≤ (l.length : Int) by omega), if_pos (show (l.take a.toNat ++ m).length + (l.drop (a + c).toNat).length < 140737488355328 by rw [List.length_append]; omega)]
    exact Ev.pure _
  · simp only [h, decide_false, Bool.false_eq_true, if_false]
    exact Ev.pure _
theorem isText_ev {l : List Int} (hB : B l) : Ev (fun k => impl_isText.f k l) (decide ((l.length : Int) ≤ 400 ∧ Utf l)) := by
  refine Ev.ite (fun h => ?_) (fun h => (Ev.pure _).eq (by simp; intro e; omega))
  exact Ev.bind (Valid_ev hB) ((Ev.pure _).eq (by simp [h]))
theorem in_eq (a b c : Int) : impl_in.f a b c = some (decide (b ≤ a ∧ a ≤ c)) := by
  unfold impl_in.f
  by_cases h : b ≤ a <;> simp [h]
set_option maxRecDepth 100000 in
theorem start_bits : ∀ X : Fin 256, (bits .and .u8 ((X.val : Nat) : Int) 192 != 128) = !(decide (128 ≤ X.val) && decide (X.val ≤ 191)) := by decide +kernel
theorem RuneStart_eq {b : Int} (h0 : 0 ≤ b) (h1 : b ≤ 255) : utf8_RuneStart.f b = some (decide (¬ (128 ≤ b ∧ b ≤ 191))) := by
  obtain ⟨n, rfl⟩ := Int.eq_ofNat_of_zero_le h0
  unfold utf8_RuneStart.f
  have := start_bits ⟨n, by omega⟩
  simp only at this
  rw [this]
  congr 1
  by_cases c1 : 128 ≤ n <;> by_cases c2 : n ≤ 191 <;> simp [c1, c2] <;> omega
theorem rs_cont {l : List Int} {i : Int} (h0 : 0 < i) (h1 : i < (rs l : Int)) : 128 ≤ rd l i ∧ rd l i ≤ 191 := by
  have e := rs_eq l
  unfold rsAt rsz at e
  simp only [Int.zero_add] at e
  repeat' split at e
  all_goals first
    | omega
    | (have : i = 1 ∨ i = 2 ∨ i = 3 := by omega
       rcases this with rfl | rfl | rfl <;> omega)
    | skip
  all_goals (have : i = 1 ∨ i = 2 ∨ i = 3 := by omega)
  all_goals (rcases this with rfl | rfl | rfl <;> first | omega | (simp_all; done) | (split at * <;> omega))
theorem rs_head {l : List Int} (h : rs l ≠ 0) : ¬ (128 ≤ rd l 0 ∧ rd l 0 ≤ 191) := by
  have e := rs_eq l
  unfold rsAt rsz at e
  simp only [Int.zero_add] at e
  repeat' split at e
  all_goals omega
theorem Bd_start {l : List Int} (hu : Utf l) : ∀ a : Int, 0 ≤ a → a < (l.length : Int) → (Bd l a ↔ ¬ (128 ≤ rd l a ∧ rd l a ≤ 191)) := by
  induction hu with
  | nil => intro a h0 h1; simp at h1; omega
  | cons l h1 h2 ih =>
    intro a ha hl
    have hne : l ≠ [] := by intro e; subst e; simp at hl; omega
    have hle := rs_le l
    rw [Bd.step hne (.cons l h1 h2)]
    by_cases c0 : a = 0
    · subst c0; simp only [true_or, true_iff]; exact rs_head h1
    by_cases c : a < (rs l : Int)
    · have := rs_cont (l := l) (i := a) (by omega) c
      constructor
      · rintro (h | h)
        · exact absurd h c0
        · have := h.range; omega
      · intro h; exact absurd this h
    · have := ih (a - (rs l : Int)) (by omega) (by rw [List.length_drop]; omega)
      rw [show rd (l.drop (rs l)) (a - (rs l : Int)) = rd l a by
        have := rd_drop (l := l) (i := (rs l : Int)) (j := a - (rs l : Int)) (by omega) (by omega)
        rw [Int.toNat_natCast] at this
        rw [this]; congr 1; omega] at this
      rw [this]
      simp [c0]
theorem isCut_eq {l : List Int} (hB : B l) (hl : (l.length : Int) ≤ 1000000) (hu : Utf l) (a : Int) : impl_isCut.f l a = some (decide (Bd l a)) := by
  unfold impl_isCut.f
  by_cases c : a = (l.length : Int)
  · subst c; simp [Bd.end hu]
  rw [if_neg c, in_eq, wrap64_id (n := (l.length : Int) - 1) (by omega) (by omega)]
  simp only [Option.bind_some, decide_eq_true_eq]
  by_cases d : 0 ≤ a ∧ a ≤ (l.length : Int) - 1
  · rw [if_pos d, if_pos d.1, if_pos (by omega), RuneStart_eq (hB.rd a).1 (hB.rd a).2]
    simp only [Option.bind_some, Option.some.injEq]
    exact decide_eq_decide.2 (Bd_start hu a d.1 (by omega)).symm
  · rw [if_neg d]
    simp only [Option.some.injEq]
    rw [eq_comm, decide_eq_false_iff_not]
    intro h
    have := h.range
    omega
theorem isEdit_ev {l m : List Int} (hB : B l) (hm : B m) (a c : Int) : Ev (fun k => impl_isEdit.f k l a c m) (decide (EOk l a c m)) := by
  have no : ¬ EOk l a c m → Ev (fun _ => some false) (decide (EOk l a c m)) := fun h => (Ev.pure _).eq (by simp [h])
  refine Ev.bind (isText_ev hB) (Ev.ite (fun h => ?_) (fun h => no (fun e => h (by simp; exact ⟨e.1, e.2.1.utf⟩))))
  simp only [decide_eq_true_eq] at h
  refine Ev.bind (Ev.const (isCut_eq hB (by omega) h.2 a)) (Ev.ite (fun h1 => ?_) (fun h1 => no (fun e => h1 (by simp; exact e.2.1))))
  simp only [decide_eq_true_eq] at h1
  have hr := h1.range
  rw [wrap64_id (n := (l.length : Int) - a) (by omega) (by omega)]
  refine Ev.bind (Ev.const (in_eq c 0 ((l.length : Int) - a))) (Ev.ite (fun h3 => ?_) (fun h3 => no (fun e => h3 (by simp; exact ⟨e.2.2.1, e.2.2.2.1⟩))))
  simp only [decide_eq_true_eq] at h3
  rw [wrap64_id (n := a + c) (by omega) (by omega)]
  refine Ev.bind (Ev.const (isCut_eq hB (by omega) h.2 (a + c))) (Ev.ite (fun h4 => ?_) (fun h4 => no (fun e => h4 (by simp; exact e.2.2.2.2.1))))
  simp only [decide_eq_true_eq] at h4
  refine Ev.bind (isText_ev hm) (Ev.ite (fun h5 => ?_) (fun h5 => no (fun e => h5 (by simp; exact ⟨e.2.2.2.2.2.1, e.2.2.2.2.2.2.1⟩))))
  simp only [decide_eq_true_eq] at h5
  refine (Ev.pure _).eq (decide_eq_decide.2 ?_)
  rw [wrap64_id (n := (l.length : Int) - c) (by omega) (by omega), wrap64_id (n := (l.length : Int) - c + _) (by omega) (by omega)]
  exact ⟨fun e => ⟨h.1, h1, by omega, by omega, h4, h5.1, h5.2, e⟩, fun e => e.2.2.2.2.2.2.2⟩
theorem rd_L2_eq {L : List (List Int)} {i : Int} (h0 : 0 ≤ i) (h1 : i < (L.length : Int)) : L.drop i.toNat = rd_L2 L i :: L.drop (i + 1).toNat := by
  rw [List.drop_eq_getElem_cons (show i.toNat < L.length by omega), show (i + 1).toNat = i.toNat + 1 by omega]
  unfold rd_L2
  rw [List.getD_eq_getElem?_getD, List.getElem?_eq_getElem (show i.toNat < L.length by omega)]; rfl
theorem Concat_l1 {L : List (List Int)} (hL : L.flatten.length ≤ 1000000000) (hn : (L.length : Int) ≤ 1000000000) : ∀ (n : Nat) (i : Int) (acc : List Int), 0 ≤ i → i ≤ (L.length : Int) → (L.length : Int) - i ≤ n → acc.length ≤ 1000000000 → (L.drop i.toNat).flatten.length ≤ 1000000000 →
    acc.length + (L.drop i.toNat).flatten.length ≤ 1000000000 → Ev (fun k => slices_Concat_byte_byte.l1 k acc L (L.length : Int) i) (acc ++ (L.drop i.toNat).flatten) := by
  intro n
  induction n with
  | zero =>
    intro i acc h0 h1 hn ha hd hs
    apply Ev.succ
    simp only [slices_Concat_byte_byte.l1, if_neg (show ¬ i < (L.length : Int) by omega)]
    rw [List.drop_eq_nil_of_le (by omega)]
    exact (Ev.pure _).eq (by simp)
  | succ n ih =>
    intro i acc h0 h1 hn' ha hd hs
    apply Ev.succ
    by_cases c : i < (L.length : Int)
    · rw [rd_L2_eq h0 c, List.flatten_cons, List.length_append] at hs
      simp only [slices_Concat_byte_byte.l1, if_pos c, if_pos h0, if_pos (show acc.length + (rd_L2 L i).length < 140737488355328 by omega), wrap64_id (n := i + 1) (by omega) (by omega)]
      refine (ih (i + 1) (acc ++ rd_L2 L i) (by omega) (by omega) (by omega) (by rw [List.length_append]; omega) (by omega) (by rw [List.length_append]; omega)).eq ?_
      rw [rd_L2_eq h0 c, List.flatten_cons, List.append_assoc]
    · simp only [slices_Concat_byte_byte.l1, if_neg c]
      rw [List.drop_eq_nil_of_le (by omega)]
      exact (Ev.pure _).eq (by simp)
theorem Concat_l0 {L : List (List Int)} (hL : L.flatten.length ≤ 1000000000) (hn : (L.length : Int) ≤ 1000000000) : ∀ (n : Nat) (i s : Int), 0 ≤ i → i ≤ (L.length : Int) → (L.length : Int) - i ≤ n → 0 ≤ s → s + (L.drop i.toNat).flatten.length ≤ 1000000000 →
    Ev (fun k => slices_Concat_byte_byte.l0 k L s L (L.length : Int) i) L.flatten := by
  intro n
  have fin : ∀ s : Int, 0 ≤ s → s ≤ 1000000000 → Ev (fun k => (slices_Grow_byte_byte.f ([] : List Int) s).bind fun t => slices_Concat_byte_byte.l1 k t L (L.length : Int) 0) L.flatten := by
    intro s h0 h1
    refine Ev.bind (Ev.const (v := ([] : List Int)) ?_) ((Concat_l1 hL hn L.length 0 [] (by omega) (by omega) (by omega) (by simp) (by simpa using hL) (by simpa using hL)).eq (by simp))
    unfold slices_Grow_byte_byte.f
    rw [if_pos h0, if_pos (by omega)]
  induction n with
  | zero =>
    intro i s h0 h1 hn hs hd
    apply Ev.succ
    simp only [slices_Concat_byte_byte.l0, if_neg (show ¬ i < (L.length : Int) by omega)]
    exact fin s hs (by omega)
  | succ n ih =>
    intro i s h0 h1 hn' hs hd
    apply Ev.succ
    by_cases c : i < (L.length : Int)
    · rw [rd_L2_eq h0 c, List.flatten_cons, List.length_append] at hd
      have hw : wrap64 (s + ((rd_L2 L i).length : Int)) = s + ((rd_L2 L i).length : Int) := wrap64_id (by omega) (by omega)
      simp only [slices_Concat_byte_byte.l0, if_pos c, if_pos h0, hw, if_neg (show ¬ s + ((rd_L2 L i).length : Int) < 0 by omega), wrap64_id (n := i + 1) (by omega) (by omega)]
      exact ih (i + 1) _ (by omega) (by omega) (by omega) (by omega) (by omega)
    · simp only [slices_Concat_byte_byte.l0, if_neg c]
      exact fin s hs (by omega)
theorem Concat_ev {L : List (List Int)} (hL : L.flatten.length ≤ 1000000000) (hn : (L.length : Int) ≤ 1000000000) : Ev (fun k => slices_Concat_byte_byte.f k L) L.flatten :=
  Concat_l0 hL hn L.length 0 0 (by omega) (by omega) (by omega) (by omega) (by show (0 : Int) + (L.flatten.length : Int) ≤ _; omega)
theorem Edit_do_ev {l m : List Int} {a c : Int} (hl : (l.length : Int) ≤ 1000000) (hm : (m.length : Int) ≤ 1000000) (h0 : 0 ≤ a) (h1 : a ≤ (l.length : Int)) (h2 : 0 ≤ a + c) (h3 : a + c ≤ (l.length : Int)) :
    Ev (fun k => impl_Edit_do.f k a c m l) (l.take a.toNat ++ m ++ l.drop (a + c).toNat) := by
  simp only [impl_Edit_do.f, if_pos h0, if_pos h1, wrap64_id (n := a + c) (by omega) (by omega), if_pos h2, if_pos h3]
  refine Ev.bind (Concat_ev ?_ ?_) ((Ev.pure _).eq ?_)
  · simp; omega
  · simp
  · simp
def St (n p q : Int) : Prop := 0 ≤ p ∧ p ≤ n ∧ 0 ≤ q ∧ q ≤ 70000
theorem St.up {n m p q : Int} (h : St n p q) (hm : n ≤ m) : St m p q := ⟨h.1, by have := h.2.1; omega, h.2.2⟩
def Src (s : List Int) : Prop := B s ∧ (s.length : Int) ≤ 1048576
theorem tmod_nn {a b : Int} (h : 0 ≤ a) : Int.tmod a b = a % b := Int.tmod_eq_emod_of_nonneg h
theorem pick_ok {s : List Int} (hs : Src s) {n p q a : Int} (h : St n p q) (hn : n ≤ 1000000000) (ha : a ≤ 1000000000) :
    ∃ r p' q', spec_l01Cur_pick.f s p q a = some (r, p', q') ∧ St (n + 1) p' q' ∧ 0 ≤ r ∧ (2 ≤ a → r < a) ∧ (a < 2 → r = 0) := by
  obtain ⟨hB, hl⟩ := hs
  obtain ⟨p0, pn, q0, qn⟩ := h
  unfold spec_l01Cur_pick.f
  by_cases c : a < 2
  · rw [if_pos c]
    exact ⟨0, p, q, rfl, ⟨p0, by omega, q0, qn⟩, by omega, by omega, fun _ => rfl⟩
  rw [if_neg c]
  have na : ¬ a = 0 := by omega
  have hp : wrap64 (p + 1) = p + 1 := wrap64_id (by omega) (by omega)
  by_cases d : p < (s.length : Int)
  · rw [if_pos d, if_pos p0, if_neg na, hp]
    have b := hB.rd p
    rw [wrap64_id (n := rd s p) (by omega) (by omega), tmod_nn b.1]
    have e := Int.emod_nonneg (rd s p) na
    have f := Int.emod_lt_of_pos (rd s p) (show 0 < a by omega)
    exact ⟨_, _, _, rfl, ⟨by omega, by omega, q0, qn⟩, e, fun _ => f, fun h => absurd h c⟩
  rw [if_neg d, wrap64_id (n := q * 1103) (by omega) (by omega), wrap64_id (n := q * 1103 + 12345) (by omega) (by omega), hp, tmod_nn (a := q * 1103 + 12345) (by omega)]
  have q1 : St (n + 1) (p + 1) ((q * 1103 + 12345) % 65521) := ⟨by omega, by omega, by omega, by omega⟩
  by_cases e : (s.length : Int) > 0
  · have m0 := Int.emod_nonneg p (show (s.length : Int) ≠ 0 by omega)
    have m1 := Int.emod_lt_of_pos p e
    rw [if_pos e, if_neg (by omega), tmod_nn p0, if_pos m0, if_pos m1, if_neg na]
    have b := hB.rd (p % (s.length : Int))
    rw [Int.tdiv_eq_ediv_of_nonneg (by omega)]
    rw [wrap64_id (n := (q * 1103 + 12345) % 65521 / 7) (by omega) (by omega), wrap64_id (n := rd s (p % (s.length : Int))) (by omega) (by omega), wrap64_id (n := _ + rd s (p % (s.length : Int))) (by omega) (by omega), tmod_nn (by omega)]
    have g := Int.emod_nonneg ((q * 1103 + 12345) % 65521 / 7 + rd s (p % (s.length : Int))) na
    have f := Int.emod_lt_of_pos ((q * 1103 + 12345) % 65521 / 7 + rd s (p % (s.length : Int))) (show 0 < a by omega)
    exact ⟨_, _, _, rfl, q1, g, fun _ => f, fun h => absurd h c⟩
  · rw [if_neg e, if_neg na]
    refine ⟨_, _, _, rfl, q1, ?_, fun _ => ?_, fun h => absurd h c⟩
    · simp
    · simp; omega
theorem size_ok {s : List Int} (hs : Src s) {n p q a : Int} (h : St n p q) (hn : n ≤ 1000000000) (h0 : 0 ≤ a) (ha : a ≤ 1000000) :
    ∃ r p' q', spec_l01Cur_size.f s p q a = some (r, p', q') ∧ St (n + 1) p' q' ∧ 0 ≤ r ∧ r ≤ a := by
  have hl := hs.2
  have e : wrap64 (mn a (wrap64 (1 + wrap64 ((s.length : Int) / 8))) + 1) = mn a (1 + (s.length : Int) / 8) + 1 := by
    rw [wrap64_id (n := (s.length : Int) / 8) (by omega) (by omega), wrap64_id (n := 1 + (s.length : Int) / 8) (by omega) (by omega)]
    unfold mn
    split <;> exact wrap64_id (by omega) (by omega)
  have m : 0 ≤ mn a (1 + (s.length : Int) / 8) ∧ mn a (1 + (s.length : Int) / 8) ≤ a := by unfold mn; split <;> omega
  obtain ⟨r, p', q', h1, h2, h3, h4, h5⟩ := pick_ok hs h hn (a := mn a (1 + (s.length : Int) / 8) + 1) (by omega)
  refine ⟨r, p', q', ?_, h2, h3, ?_⟩
  · unfold spec_l01Cur_size.f; rw [e, h1]; rfl
  · by_cases c : 2 ≤ mn a (1 + (s.length : Int) / 8) + 1
    · have := h4 c; omega
    · have := h5 (by omega); omega
theorem rune_ok {s : List Int} (hs : Src s) {n p q : Int} (h : St n p q) (hn : n ≤ 900000000) :
    ∃ r p' q', spec_l01Cur_rune.f s p q = some (r, p', q') ∧ St (n + 3) p' q' := by
  obtain ⟨r1, p1, q1, e1, s1, _⟩ := pick_ok hs h (by omega) (a := 3) (by omega)
  obtain ⟨r2, p2, q2, e2, s2, _⟩ := pick_ok hs s1 (by omega) (a := 3) (by omega)
  obtain ⟨r3, p3, q3, e3, s3, g0, g1, _⟩ := pick_ok hs s2 (by omega) (a := 14) (by omega)
  have g1 := g1 (by omega)
  unfold spec_l01Cur_rune.f
  simp only [e1, e2, e3, Option.bind_some, if_pos g0, List.length_cons, List.length_nil]
  rw [if_pos (by omega)]
  exact ⟨_, _, _, rfl, s3.up (by omega)⟩
theorem text_loop {s : List Int} (hs : Src s) {a : Int} (h0 : 0 ≤ a) : ∀ (m : Nat) (x : List Int) (j n p q : Int), St n p q → n + 3 * m ≤ 900000000 → j ≤ m → B x → x.length + 4 * m ≤ 1000000000 →
    ∃ y p' q', Ev (fun k => spec_l01Cur_text.l0 k a x j s p q) (y, p', q') ∧ St (n + 3 * m) p' q' ∧ B y ∧ (y.length : Int) ≤ a := by
  intro m
  have stop : ∀ (x : List Int) (j n p q : Int), St n p q → ¬ j > 0 → B x → ∃ y p' q', Ev (fun k => spec_l01Cur_text.l0 k a x j s p q) (y, p', q') ∧ St n p' q' ∧ B y ∧ (y.length : Int) ≤ a := by
    intro x j n p q hS hj hB
    by_cases c : (x.length : Int) > a
    · refine ⟨[], p, q, Ev.succ ?_, hS, .nil, by simp; omega⟩
      simp only [spec_l01Cur_text.l0, if_neg hj, if_pos c, if_pos (show 0 ≤ (x.length : Int) by omega)]
      exact (Ev.pure _).eq (by simp)
    · refine ⟨x, p, q, Ev.succ ?_, hS, hB, by omega⟩
      simp only [spec_l01Cur_text.l0, if_neg hj, if_neg c]
      exact Ev.pure _
  induction m with
  | zero =>
    intro x j n p q hS hn hj hB hx
    obtain ⟨y, p', q', h1, h2, h3, h4⟩ := stop x j n p q hS (by omega) hB
    exact ⟨y, p', q', h1, h2.up (by omega), h3, h4⟩
  | succ m ih =>
    intro x j n p q hS hn hj hB hx
    by_cases c : j > 0
    · obtain ⟨r, p1, q1, e1, s1⟩ := rune_ok hs hS (by omega)
      have rl : (rbytes r).length ≤ 4 := by unfold rbytes; repeat' split
                                            all_goals simp
      obtain ⟨y, p', q', h1, h2, h3, h4⟩ := ih (x ++ rbytes r) (wrap64 (j - 1)) (n + 3) p1 q1 s1 (by omega) (by rw [wrap64_id (by omega) (by omega)]; omega) (hB.app (rbytes_B r)) (by rw [List.length_append]; omega)
      refine ⟨y, p', q', Ev.succ ?_, h2.up (by omega), h3, h4⟩
      simp only [spec_l01Cur_text.l0, if_pos c, e1, Option.bind_some]
      refine Ev.bind (RuneBytes_ev r) ?_
      simp only [if_pos (show x.length + (rbytes r).length < 140737488355328 by omega)]
      exact h1
    · obtain ⟨y, p', q', h1, h2, h3, h4⟩ := stop x j n p q hS c hB
      exact ⟨y, p', q', h1, h2.up (by omega), h3, h4⟩
theorem text_ok {s : List Int} (hs : Src s) {n p q : Int} (h : St n p q) (hn : n ≤ 800000000) {a : Nat} (ha : a ≤ 1000000) :
    ∃ y p' q', Ev (fun k => spec_l01Cur_text.f k s p q (a : Int)) (y, p', q') ∧ St (n + 1 + 3 * a) p' q' ∧ B y ∧ (y.length : Int) ≤ a := by
  obtain ⟨r, p1, q1, e1, s1, r0, r1⟩ := size_ok hs h (by omega) (a := (a : Int)) (by omega) (by omega)
  obtain ⟨y, p', q', h1, h2, h3, h4⟩ := text_loop hs (a := (a : Int)) (by omega) a [] r (n + 1) p1 q1 s1 (by omega) r1 .nil (by simp; omega)
  refine ⟨y, p', q', ?_, h2, h3, h4⟩
  simp only [spec_l01Cur_text.f, e1, Option.bind_some]
  exact h1
theorem raw_ok {s : List Int} (hs : Src s) {n p q : Int} (h : St n p q) (hn : n ≤ 900000000) : ∃ r p' q', spec_l01Cur_raw.f s p q = some (r, p', q') ∧ St (n + 2) p' q' := by
  obtain ⟨r1, p1, q1, e1, s1, _⟩ := pick_ok hs h (by omega) (a := 8) (by omega)
  unfold spec_l01Cur_raw.f
  simp only [e1, Option.bind_some]
  by_cases c : r1 = 0
  · obtain ⟨r2, p2, q2, e2, s2, _⟩ := pick_ok hs s1 (by omega) (a := 256) (by omega)
    simp only [if_pos c, e2, Option.bind_some]
    exact ⟨_, _, _, rfl, s2.up (by omega)⟩
  by_cases d : r1 = 1
  · obtain ⟨r2, p2, q2, e2, s2, g0, g1, _⟩ := pick_ok hs s1 (by omega) (a := 8) (by omega)
    have g1 := g1 (by omega)
    simp only [if_neg c, if_pos d, e2, Option.bind_some, if_pos g0, List.length_cons, List.length_nil]
    rw [if_pos (by omega)]
    exact ⟨_, _, _, rfl, s2.up (by omega)⟩
  · obtain ⟨r2, p2, q2, e2, s2, _⟩ := pick_ok hs s1 (by omega) (a := 14) (by omega)
    simp only [if_neg c, if_neg d, e2, Option.bind_some]
    exact ⟨_, _, _, rfl, s2.up (by omega)⟩
theorem place_ok {s : List Int} (hs : Src s) {n p q a : Int} (h : St n p q) (hn : n ≤ 800000000) (h0 : 0 ≤ a) (ha : a ≤ 1000000) : ∃ r p' q', spec_l01Cur_place.f s p q a = some (r, p', q') ∧ St (n + 5) p' q' := by
  have e : wrap64 (a + 1) = a + 1 := wrap64_id (by omega) (by omega)
  have m : mx 1 (a + 1) ≤ 1000000000 := by unfold mx; split <;> omega
  obtain ⟨r1, p1, q1, e1, s1, _⟩ := pick_ok hs h (by omega) m
  obtain ⟨r2, p2, q2, e2, s2, _⟩ := pick_ok hs s1 (by omega) m
  obtain ⟨r3, p3, q3, e3, s3⟩ := raw_ok hs s2 (by omega)
  obtain ⟨r4, p4, q4, e4, s4, g0, g1, _⟩ := pick_ok hs s3 (by omega) (a := 5) (by omega)
  have g1 := g1 (by omega)
  unfold spec_l01Cur_place.f
  simp only [e, e1, e2, e3, e4, Option.bind_some, if_pos g0, List.length_cons, List.length_nil]
  rw [if_pos (by omega)]
  exact ⟨_, _, _, rfl, s4.up (by omega)⟩
theorem once_ok {s : List Int} (hs : Src s) {n p q a : Int} (h : St n p q) (hn : n ≤ 900000000) (ha : a ≤ 1000000000) : ∃ b p' q', spec_l01Cur_once.f s p q a = some (b, p', q') ∧ St (n + 1) p' q' := by
  obtain ⟨r1, p1, q1, e1, s1, _⟩ := pick_ok hs h (by omega) ha
  unfold spec_l01Cur_once.f
  simp only [e1, Option.bind_some]
  exact ⟨_, _, _, rfl, s1⟩
def CB (R : List S125) : Prop := R.length ≤ 1000 ∧ ∀ c ∈ R, B c.f0 ∧ c.f0.length ≤ 1000
theorem rd125 {R : List S125} {i : Int} (h0 : 0 ≤ i) (h1 : i < (R.length : Int)) : rd_T125 R i ∈ R := by
  unfold rd_T125
  rw [List.getD_eq_getElem?_getD, List.getElem?_eq_getElem (show i.toNat < R.length by omega)]
  exact List.getElem_mem _
theorem ChunkOk_ev {l : List Int} (hB : B l) : ∃ b, Ev (fun k => spec_ChunkOk.f k l) b := by
  unfold spec_ChunkOk.f
  by_cases c : (l.length : Int) ≥ 1
  · by_cases d : (l.length : Int) ≤ 16
    · simp only [if_pos c, if_pos d]
      exact ⟨_, Ev.bind (TextOk_ev hB) (Ev.pure _)⟩
    · simp only [if_pos c, if_neg d]; exact ⟨_, Ev.pure _⟩
  · simp only [if_neg c]; exact ⟨_, Ev.pure _⟩
theorem ChunksOk_ev {R : List S125} (hR : CB R) : ∃ b, Ev (fun k => spec_ChunksOk.f k R) b := by
  have key : ∀ (n : Nat) (s i : Int), 0 ≤ i → (R.length : Int) - i ≤ n → 0 ≤ s → s ≤ 400 → ∃ b, Ev (fun k => spec_ChunksOk.l0 k R s i) b := by
    intro n
    induction n with
    | zero =>
      intro s i h0 hn _ _
      refine ⟨true, Ev.succ ?_⟩
      simp only [spec_ChunksOk.l0, if_neg (show ¬ i < (R.length : Int) by omega)]
      exact Ev.pure _
    | succ n ih =>
      intro s i h0 hn hs hs2
      by_cases c : i < (R.length : Int)
      · have hc := hR.2 _ (rd125 h0 c)
        have hl := hR.1
        obtain ⟨b, hb⟩ := ChunkOk_ev hc.1
        by_cases hb1 : b = true
        · by_cases d : s + (((rd_T125 R i).f0).length : Int) > 400
          · refine ⟨false, Ev.succ ?_⟩
            simp only [spec_ChunksOk.l0, if_pos c, if_pos h0]
            refine Ev.bind hb ?_
            simp only [if_pos hb1, wrap64_id (n := s + (((rd_T125 R i).f0).length : Int)) (by omega) (by omega), if_pos d]
            exact Ev.pure _
          · obtain ⟨b2, h2⟩ := ih (s + (((rd_T125 R i).f0).length : Int)) (i + 1) (by omega) (by omega) (by omega) (by omega)
            refine ⟨b2, Ev.succ ?_⟩
            simp only [spec_ChunksOk.l0, if_pos c, if_pos h0]
            refine Ev.bind hb ?_
            simp only [if_pos hb1, wrap64_id (n := s + (((rd_T125 R i).f0).length : Int)) (by omega) (by omega), if_neg d, wrap64_id (n := i + 1) (by omega) (by omega)]
            exact h2
        · refine ⟨false, Ev.succ ?_⟩
          simp only [spec_ChunksOk.l0, if_pos c, if_pos h0]
          refine Ev.bind hb ?_
          simp only [if_neg hb1]
          exact Ev.pure _
      · refine ⟨true, Ev.succ ?_⟩
        simp only [spec_ChunksOk.l0, if_neg c]
        exact Ev.pure _
  exact key R.length 0 0 (by omega) (by omega) (by omega) (by omega)
theorem RopeText_ev {R : List S125} (hR : CB R) : ∃ t, Ev (fun k => spec_RopeText.f k R) t ∧ B t ∧ (t.length : Int) ≤ 1000000 := by
  obtain ⟨ok, hok⟩ := ChunksOk_ev hR
  have hl := hR.1
  have key : ∀ (n : Nat) (x : List Int) (i : Int), 0 ≤ i → (R.length : Int) - i ≤ n → B x → (x.length : Int) ≤ 1000 * i → i ≤ (R.length : Int) → ∃ t, Ev (fun k => spec_ChunksText.l0 k R x i) t ∧ B t ∧ (t.length : Int) ≤ 1000000 := by
    intro n
    induction n with
    | zero =>
      intro x i h0 hn hx hxl hi
      refine ⟨x, Ev.succ ?_, hx, by omega⟩
      simp only [spec_ChunksText.l0]
      refine Ev.bind hok ?_
      simp only [if_neg (show ¬ i < (R.length : Int) by omega), ite_self]
      exact Ev.pure _
    | succ n ih =>
      intro x i h0 hn hx hxl hi
      by_cases c : ok = true ∧ i < (R.length : Int)
      · have hc := hR.2 _ (rd125 h0 c.2)
        obtain ⟨t, h1, h2, h3⟩ := ih (x ++ (rd_T125 R i).f0) (i + 1) (by omega) (by omega) (hx.app hc.1) (by rw [List.length_append]; omega) (by omega)
        refine ⟨t, Ev.succ ?_, h2, h3⟩
        simp only [spec_ChunksText.l0]
        refine Ev.bind hok ?_
        simp only [if_pos c.1, if_pos c.2, if_pos h0, if_pos (show x.length + ((rd_T125 R i).f0).length < 140737488355328 by omega), wrap64_id (n := i + 1) (by omega) (by omega)]
        exact h1
      · refine ⟨x, Ev.succ ?_, hx, by omega⟩
        simp only [spec_ChunksText.l0]
        refine Ev.bind hok (Ev.ite (fun h1 => Ev.ite (fun h2 => absurd ⟨h1, h2⟩ c) (fun _ => Ev.pure _)) (fun _ => Ev.pure _))
  obtain ⟨t, h1, h2, h3⟩ := key R.length [] 0 (by omega) (by omega) .nil (by simp) (by omega)
  exact ⟨t, Ev.bind h1 (Ev.pure _), h2, h3⟩
theorem ChunksOf_ev {l : List Int} (hB : B l) : ∃ R, Ev (fun k => spec_ChunksOf.f k l) R ∧ CB R := by
  by_cases ht : (l.length : Int) ≤ 400 ∧ Utf l
  · have hl := ht.1
    have key : ∀ (n : Nat) (acc : List S125) (i : Int), 0 ≤ i → i ≤ (l.length : Int) → (l.length : Int) - i ≤ n → (acc.length : Int) ≤ i → (∀ c ∈ acc, B c.f0 ∧ c.f0.length ≤ 1000) → Utf (l.drop i.toNat) →
        ∃ R, Ev (fun k => spec_ChunksOf.l0 k l acc i) R ∧ CB R := by
      intro n
      induction n with
      | zero =>
        intro acc i h0 h1 hn ha hc hu
        refine ⟨acc, Ev.succ ?_, by omega, hc⟩
        simp only [spec_ChunksOf.l0, if_neg (show ¬ i < (l.length : Int) by omega)]
        exact Ev.pure _
      | succ n ih =>
        intro acc i h0 h1 hn ha hc hu
        by_cases c : i < (l.length : Int)
        · have cut : ∀ j, i < j → j ≤ (l.length : Int) → Utf (l.drop j.toNat) → ∃ R, Ev (fun k => spec_ChunksOf.j2 k l acc i j) R ∧ CB R := by
            intro j hj hjl huj
            have e1 : ((l.take j.toNat).drop i.toNat).length ≤ 1000 := by rw [List.length_drop, List.length_take]; omega
            obtain ⟨R, hR, hC⟩ := ih (acc ++ [⟨(l.take j.toNat).drop i.toNat⟩]) j (by omega) hjl (by omega) (by rw [List.length_append]; simp; omega) (fun d hd => by
              rcases List.mem_append.1 hd with h | h
              · exact hc d h
              · simp at h; subst h; exact ⟨(hB.take _).drop _, e1⟩) huj
            refine ⟨R, Ev.succ ?_, hC⟩
            simp only [spec_ChunksOf.j2, Option.bind_some, List.nil_append, List.length_nil, if_pos h0, if_pos (show i ≤ j by omega), if_pos hjl, if_pos (show 0 + ((l.take j.toNat).drop i.toNat).length < 140737488355328 by omega), if_pos (show acc.length < 5864062014805 by omega)]
            exact hR
          have inner : ∀ (m : Nat) (j : Int), i ≤ j → j ≤ (l.length : Int) → (l.length : Int) - j ≤ m → Utf (l.drop j.toNat) → ∃ R, Ev (fun k => spec_ChunksOf.l1 k l acc i j) R ∧ CB R := by
            intro m
            induction m with
            | zero =>
              intro j hj hjl hm huj
              obtain ⟨R, hR, hC⟩ := cut j (by omega) hjl huj
              refine ⟨R, Ev.succ ?_, hC⟩
              simp only [spec_ChunksOf.l1, if_neg (show ¬ j < (l.length : Int) by omega)]
              exact hR
            | succ m ihm =>
              intro j hj hjl hm huj
              by_cases d : j < (l.length : Int)
              · have hne : l.drop j.toNat ≠ [] := by intro e; rw [List.drop_eq_nil_iff] at e; omega
                have ⟨r1, r2⟩ := huj.inv hne
                have er : rsAt l j = (rs (l.drop j.toNat) : Int) := by rw [rsAt_drop (by omega) hjl, rs_eq]
                have hle := rs_le (l.drop j.toNat)
                rw [List.length_drop] at hle
                have hd : (l.drop j.toNat).drop (rs (l.drop j.toNat)) = l.drop (j + (rs (l.drop j.toNat) : Int)).toNat := by rw [List.drop_drop, show (j + (rs (l.drop j.toNat) : Int)).toNat = j.toNat + rs (l.drop j.toNat) by omega]
                rw [hd] at r2
                have hz := RuneSize_ev hB (by omega) (i := j) (by omega)
                rw [er] at hz
                have w1 : wrap64 (j + (rs (l.drop j.toNat) : Int)) = j + (rs (l.drop j.toNat) : Int) := wrap64_id (by omega) (by omega)
                have w2 : wrap64 (j + (rs (l.drop j.toNat) : Int) - i) = j + (rs (l.drop j.toNat) : Int) - i := wrap64_id (by omega) (by omega)
                by_cases e : j + (rs (l.drop j.toNat) : Int) - i ≤ 16
                · obtain ⟨R, hR, hC⟩ := ihm (j + (rs (l.drop j.toNat) : Int)) (by omega) (by omega) (by omega) r2
                  refine ⟨R, Ev.succ ?_, hC⟩
                  simp only [spec_ChunksOf.l1, if_pos d]
                  refine Ev.bind hz ?_
                  simp only [w1, w2, if_pos e]
                  refine Ev.bind hz ?_
                  simp only [w1]
                  exact hR
                · obtain ⟨R, hR, hC⟩ := cut j (by omega) hjl huj
                  refine ⟨R, Ev.succ ?_, hC⟩
                  simp only [spec_ChunksOf.l1, if_pos d]
                  refine Ev.bind hz ?_
                  simp only [w1, w2, if_neg e]
                  exact hR
              · obtain ⟨R, hR, hC⟩ := cut j (by omega) hjl huj
                refine ⟨R, Ev.succ ?_, hC⟩
                simp only [spec_ChunksOf.l1, if_neg d]
                exact hR
          obtain ⟨R, hR, hC⟩ := inner l.length i (by omega) h1 (by omega) hu
          refine ⟨R, Ev.succ ?_, hC⟩
          simp only [spec_ChunksOf.l0, if_pos c]
          exact hR
        · refine ⟨acc, Ev.succ ?_, by omega, hc⟩
          simp only [spec_ChunksOf.l0, if_neg c]
          exact Ev.pure _
    obtain ⟨R, hR, hC⟩ := key l.length [] 0 (by omega) (by omega) (by omega) (by simp) (by simp) (by simpa using ht.2)
    refine ⟨R, ?_, hC⟩
    refine Ev.bind (TextOk_ev hB) ?_
    simp only [ht, and_self, decide_true, if_true]
    exact hR
  · refine ⟨[], ?_, by simp, by simp⟩
    refine Ev.bind (TextOk_ev hB) ?_
    simp only [decide_eq_false ht, Bool.false_eq_true, if_false]
    exact Ev.pure _
theorem RopeOf_ev {l : List Int} (hB : B l) : ∃ R b, Ev (fun k => spec_RopeOf.f k l) (R, b) ∧ CB R := by
  obtain ⟨R, hR, hC⟩ := ChunksOf_ev hB
  by_cases ht : (l.length : Int) ≤ 400 ∧ Utf l
  · refine ⟨R, true, Ev.bind (TextOk_ev hB) ?_, hC⟩
    simp only [ht, and_self, decide_true, if_true]
    exact Ev.bind hR (Ev.pure _)
  · refine ⟨[], false, Ev.bind (TextOk_ev hB) ?_, by simp [CB]⟩
    simp only [decide_eq_false ht, Bool.false_eq_true, if_false]
    exact Ev.pure _
theorem cutOf_ok {s : List Int} (hs : Src s) {n p q : Int} (h : St n p q) (hn : n ≤ 700000000) {R : List S125} (hR : CB R) : ∃ r p' q', Ev (fun k => spec_l01Cur_cutOf.f k s p q R) (r, p', q') ∧ St (n + 6) p' q' := by
  obtain ⟨t, ht, hB, hl⟩ := RopeText_ev hR
  obtain ⟨C, hC, _, _, _, hCl⟩ := l01Cuts_ev hB
  have place : ∀ m p q, St m p q → m ≤ n + 1 → ∃ r p' q', Ev (fun k => spec_l01Cur_cutOf.j0 k C false s p q R) (r, p', q') ∧ St (n + 6) p' q' := by
    intro m p q hS hm
    have mm : 0 ≤ mn 200 (t.length : Int) ∧ mn 200 (t.length : Int) ≤ 200 := by unfold mn; split <;> omega
    obtain ⟨r, p', q', e1, s1⟩ := place_ok hs hS (by omega) mm.1 (by omega)
    refine ⟨r, p', q', Ev.succ ?_, s1.up (by omega)⟩
    simp only [spec_l01Cur_cutOf.j0, Bool.false_eq_true, if_false]
    refine Ev.bind ht ?_
    simp only [e1, Option.bind_some]
    exact Ev.pure _
  by_cases c : (C.length : Int) > 0
  · obtain ⟨b, p1, q1, e1, s1⟩ := once_ok hs h (by omega) (a := 9) (by omega)
    cases b with
    | true =>
      obtain ⟨r, p', q', h1, h2⟩ := place _ p1 q1 s1 (by omega)
      refine ⟨r, p', q', Ev.bind ht (Ev.bind hC ?_), h2⟩
      simp only [if_pos c, e1, Option.bind_some, Bool.not_true]
      exact h1
    | false =>
      have mm : mn 256 (C.length : Int) ≤ 256 ∧ mn 256 (C.length : Int) ≤ (C.length : Int) ∧ 1 ≤ mn 256 (C.length : Int) := by unfold mn; split <;> omega
      obtain ⟨r, p2, q2, e2, s2, g0, g1, g2⟩ := pick_ok hs s1 (by omega) (a := mn 256 (C.length : Int)) (by omega)
      have g3 : r < (C.length : Int) := by
        by_cases d : 2 ≤ mn 256 (C.length : Int)
        · have := g1 d; omega
        · have := g2 (by omega); omega
      refine ⟨rd C r, p2, q2, Ev.bind ht (Ev.bind hC ?_), s2.up (by omega)⟩
      simp only [if_pos c, e1, Option.bind_some, Bool.not_false]
      apply Ev.succ
      simp only [spec_l01Cur_cutOf.j0, if_true, e2, Option.bind_some, if_pos g0, if_pos g3]
      exact Ev.pure _
  · obtain ⟨r, p', q', h1, h2⟩ := place n p q h (by omega)
    refine ⟨r, p', q', Ev.bind ht (Ev.bind hC ?_), h2⟩
    simp only [if_neg c]
    exact h1
theorem span_ok {s : List Int} (hs : Src s) {n p q : Int} (h : St n p q) (hn : n ≤ 600000000) {R : List S125} (hR : CB R) : ∃ a b p' q', Ev (fun k => spec_l01Cur_span.f k s p q R) (a, b, p', q') ∧ St (n + 13) p' q' := by
  obtain ⟨a, p1, q1, e1, s1⟩ := cutOf_ok hs h (by omega) hR
  obtain ⟨b, p2, q2, e2, s2⟩ := cutOf_ok hs s1 (by omega) hR
  by_cases c : a > b
  · obtain ⟨f, p3, q3, e3, s3⟩ := once_ok hs s2 (by omega) (a := 9) (by omega)
    cases f with
    | true =>
      refine ⟨a, b, p3, q3, Ev.bind e1 (Ev.bind e2 ?_), s3.up (by omega)⟩
      simp only [if_pos c, e3, Option.bind_some]
      apply Ev.succ
      simp only [spec_l01Cur_span.j0, Bool.not_true, Bool.false_eq_true, if_false]
      exact Ev.pure _
    | false =>
      refine ⟨b, a, p3, q3, Ev.bind e1 (Ev.bind e2 ?_), s3.up (by omega)⟩
      simp only [if_pos c, e3, Option.bind_some]
      apply Ev.succ
      simp only [spec_l01Cur_span.j0, Bool.not_false, if_true]
      exact Ev.pure _
  · refine ⟨a, b, p2, q2, Ev.bind e1 (Ev.bind e2 ?_), s2.up (by omega)⟩
    simp only [if_neg c]
    apply Ev.succ
    simp only [spec_l01Cur_span.j0, Bool.false_eq_true, if_false]
    exact Ev.pure _
theorem text6_ok {s : List Int} (hs : Src s) {n p q : Int} (h : St n p q) (hn : n ≤ 800000000) :
    ∃ y p' q', Ev (fun k => spec_l01Cur_text.f k s p q 6) (y, p', q') ∧ St (n + 19) p' q' ∧ B y ∧ (y.length : Int) ≤ 6 := by
  obtain ⟨y, p', q', h1, h2, h3, h4⟩ := text_ok hs h hn (a := 6) (by omega)
  exact ⟨y, p', q', h1, h2.up (by omega), h3, h4⟩
theorem text40_ok {s : List Int} (hs : Src s) {n p q : Int} (h : St n p q) (hn : n ≤ 800000000) :
    ∃ y p' q', Ev (fun k => spec_l01Cur_text.f k s p q 40) (y, p', q') ∧ St (n + 121) p' q' ∧ B y ∧ (y.length : Int) ≤ 40 := by
  obtain ⟨y, p', q', h1, h2, h3, h4⟩ := text_ok hs h hn (a := 40) (by omega)
  exact ⟨y, p', q', h1, h2.up (by omega), h3, h4⟩
theorem edit_put {s : List Int} (hs : Src s) {m p q : Int} (a c : Int) (hS : St m p q) (hm : m ≤ 600000000) : ∃ t p' q', Ev (fun k => spec_l01Cur_edit.j1 k s p q a c) (a, c, t, p', q') ∧ St (m + 20) p' q' ∧ B t ∧ (t.length : Int) ≤ 6 := by
  obtain ⟨f, p3, q3, e3, s3⟩ := once_ok hs hS (by omega) (a := 3) (by omega)
  cases f with
  | true =>
    refine ⟨[], p3, q3, Ev.succ ?_, s3.up (by omega), .nil, by simp⟩
    simp only [spec_l01Cur_edit.j1, e3, Option.bind_some, if_true]
    exact Ev.pure _
  | false =>
    obtain ⟨t, p4, q4, e4, s4, h4, h5⟩ := text6_ok hs s3 (by omega)
    refine ⟨t, p4, q4, Ev.succ ?_, s4.up (by omega), h4, h5⟩
    simp only [spec_l01Cur_edit.j1]
    refine Ev.bind (Ev.const e3) (Ev.ite (fun h => absurd h Bool.false_ne_true) (fun _ => ?_))
    exact Ev.bind e4 (Ev.pure _)
theorem edit_mid {s : List Int} (hs : Src s) {R : List S125} (hC : CB R) {m p q : Int} (x y : Int) (g : Bool) (hS : St m p q) (hm : m ≤ 500000000) : ∃ a c t p' q', Ev (fun k => spec_l01Cur_edit.j0 k x y g s p q R x (wrap64 (y - x))) (a, c, t, p', q') ∧ St (m + 30) p' q' ∧ B t ∧ (t.length : Int) ≤ 6 := by
  cases g with
  | true =>
    obtain ⟨r, p3, q3, e3, s3⟩ := cutOf_ok hs hS (by omega) hC
    by_cases d : wrap64 (r - x) < 0
    · obtain ⟨t, p', q', h1, h2, h3⟩ := edit_put hs x (wrap64 (y - x)) s3 (by omega)
      refine ⟨x, wrap64 (y - x), t, p', q', Ev.succ ?_, h2.up (by omega), h3⟩
      simp only [spec_l01Cur_edit.j0, if_true]
      refine Ev.bind e3 ?_
      simp only [if_pos d]
      exact h1
    · obtain ⟨t, p', q', h1, h2, h3⟩ := edit_put hs x (wrap64 (r - x)) s3 (by omega)
      refine ⟨x, wrap64 (r - x), t, p', q', Ev.succ ?_, h2.up (by omega), h3⟩
      simp only [spec_l01Cur_edit.j0, if_true]
      refine Ev.bind e3 ?_
      simp only [if_neg d]
      exact h1
  | false =>
    obtain ⟨t, p', q', h1, h2, h3⟩ := edit_put hs x (wrap64 (y - x)) hS (by omega)
    refine ⟨x, wrap64 (y - x), t, p', q', Ev.succ ?_, h2.up (by omega), h3⟩
    simp only [spec_l01Cur_edit.j0, Bool.false_eq_true, if_false]
    exact h1
theorem edit_ok {s : List Int} (hs : Src s) {n p q : Int} (h : St n p q) (hn : n ≤ 400000000) {l : List Int} (hB : B l) : ∃ a c m p' q', Ev (fun k => spec_l01Cur_edit.f k s p q l) (a, c, m, p', q') ∧ St (n + 50) p' q' ∧ B m ∧ (m.length : Int) ≤ 6 := by
  obtain ⟨R, b, hR, hC⟩ := RopeOf_ev hB
  obtain ⟨x, y, p1, q1, e1, s1⟩ := span_ok hs h (by omega) hC
  obtain ⟨f, p2, q2, e2, s2⟩ := once_ok hs s1 (by omega) (a := 2) (by omega)
  by_cases hf : f = true
  · obtain ⟨t, p', q', h1, h2, h3⟩ := edit_put hs x 0 s2 (by omega)
    refine ⟨x, 0, t, p', q', Ev.bind hR (Ev.bind e1 ?_), h2.up (by omega), h3⟩
    simp only [e2, Option.bind_some, if_pos hf]
    exact h1
  · by_cases d : wrap64 (y - x) > 6
    · obtain ⟨g, p3, q3, e3, s3⟩ := once_ok hs s2 (by omega) (a := 2) (by omega)
      obtain ⟨a, c, t, p', q', h1, h2, h3⟩ := edit_mid hs hC x y g s3 (by omega)
      refine ⟨a, c, t, p', q', Ev.bind hR (Ev.bind e1 ?_), h2.up (by omega), h3⟩
      simp only [e2, Option.bind_some, if_neg hf, if_pos d, e3]
      exact h1
    · obtain ⟨a, c, t, p', q', h1, h2, h3⟩ := edit_mid hs hC x y false s2 (by omega)
      refine ⟨a, c, t, p', q', Ev.bind hR (Ev.bind e1 ?_), h2.up (by omega), h3⟩
      simp only [e2, Option.bind_some, if_neg hf, if_neg d]
      exact h1
theorem B.set {l : List Int} (h : B l) {x : Int} (hx : 0 ≤ x ∧ x ≤ 255) (n : Nat) : B (l.set n x) := fun y hy => by
  rcases List.mem_or_eq_of_mem_set hy with h1 | rfl
  · exact h y h1
  · exact hx
theorem B.zeros (n : Nat) : B (List.replicate n (0 : Int)) := fun y hy => by
  have := List.eq_of_mem_replicate hy
  omega
theorem B.one {x : Int} (hx : 0 ≤ x ∧ x ≤ 255) : B [x] := fun y hy => by simp at hy; omega
theorem badText_ok {s : List Int} (hs : Src s) {n p q : Int} (h : St n p q) (hn : n ≤ 400000000) {a : Nat} (ha : a ≤ 1000) :
    ∃ y p' q', Ev (fun k => spec_l01Cur_badText.f k s p q (a : Int)) (y, p', q') ∧ St (n + 1 + 3 * a + 10) p' q' ∧ B y ∧ (y.length : Int) ≤ 2000 := by
  obtain ⟨t, p1, q1, e1, s1, b1, l1⟩ := text_ok hs h (by omega) (a := a) (by omega)
  obtain ⟨r, p2, q2, e2, s2, _⟩ := pick_ok hs s1 (by omega) (a := 9) (by omega)
  by_cases c0 : r = 0
  · by_cases c1 : (t.length : Int) > 0
    · have mm : mn 256 (t.length : Int) ≤ 256 ∧ mn 256 (t.length : Int) ≤ (t.length : Int) ∧ 1 ≤ mn 256 (t.length : Int) := by unfold mn; split <;> omega
      obtain ⟨i, p3, q3, e3, s3, i0, i1, i2⟩ := pick_ok hs s2 (by omega) (a := mn 256 (t.length : Int)) (by omega)
      have i3 : i < (t.length : Int) := by
        by_cases d : 2 ≤ mn 256 (t.length : Int)
        · have := i1 d; omega
        · have := i2 (by omega); omega
      obtain ⟨x, p4, q4, e4, s4, x0, x1, _⟩ := pick_ok hs s3 (by omega) (a := 256) (by omega)
      have x1 := x1 (by omega)
      obtain ⟨j, p5, q5, e5, s5, j0, j1, _⟩ := pick_ok hs s4 (by omega) (a := 10) (by omega)
      have j1 := j1 (by omega)
      refine ⟨t.set i.toNat ((rd [128, 192, 193, 224, 237, 240, 244, 245, 255, x] j) % 256), p5, q5, ?_, s5.up (by omega), b1.set (by
        have h1 := Int.emod_nonneg (rd [128, 192, 193, 224, 237, 240, 244, 245, 255, x] j) (show (256 : Int) ≠ 0 by omega)
        have h2 := Int.emod_lt_of_pos (rd [128, 192, 193, 224, 237, 240, 244, 245, 255, x] j) (show (0 : Int) < 256 by omega)
        omega) _, by rw [List.length_set]; omega⟩
      refine Ev.bind e1 (Ev.bind (Ev.const e2) (Ev.ite (fun _ => Ev.ite (fun _ => ?_) (fun h => absurd c1 h)) (fun h => absurd c0 h)))
      refine Ev.bind (Ev.const e3) (Ev.bind (Ev.const e4) (Ev.bind (Ev.pure _) (Ev.bind (Ev.const e5) ?_)))
      exact Ev.ite (fun _ => Ev.ite (fun _ => Ev.ite (fun _ => Ev.ite (fun _ => Ev.pure _) (fun h => absurd i3 h)) (fun h => absurd i0 h)) (fun h => absurd (show j < 10 from j1) h)) (fun h => absurd j0 h)
    · exact ⟨t, p2, q2, Ev.bind e1 (Ev.bind (Ev.const e2) (Ev.ite (fun _ => Ev.ite (fun h => absurd h c1) (fun _ => Ev.pure _)) (fun h => absurd c0 h))), s2.up (by omega), b1, by omega⟩
  by_cases c1 : r = 1
  · obtain ⟨j, p5, q5, e5, s5, j0, j1, _⟩ := pick_ok hs s2 (by omega) (a := 3) (by omega)
    have j1 := j1 (by omega)
    have bj : 0 ≤ rd [195, 226, 240] j ∧ rd [195, 226, 240] j ≤ 255 := B.rd (l := [195, 226, 240]) (by intro z hz; simp at hz; omega) j
    refine ⟨t ++ [rd [195, 226, 240] j], p5, q5, ?_, s5.up (by omega), b1.app (B.one bj), by rw [List.length_append]; simp; omega⟩
    refine Ev.bind e1 (Ev.bind (Ev.const e2) (Ev.ite (fun h => absurd h c0) (fun _ => Ev.ite (fun _ => ?_) (fun h => absurd c1 h))))
    refine Ev.bind (Ev.pure _) (Ev.bind (Ev.const e5) ?_)
    exact Ev.ite (fun _ => Ev.ite (fun _ => Ev.ite (fun _ => Ev.pure _) (fun h => absurd (show t.length < 140737488355328 by omega) h)) (fun h => absurd (show j < 3 from j1) h)) (fun h => absurd j0 h)
  by_cases c2 : r = 2
  · obtain ⟨b, p3, q3, e3, s3⟩ := once_ok hs s2 (by omega) (a := 5) (by omega)
    by_cases cb : b = true
    · obtain ⟨x, p4, q4, e4, s4, x0, x1, _⟩ := pick_ok hs s3 (by omega) (a := 2) (by omega)
      have x1 := x1 (by omega)
      have w : wrap64 (400 + x) = 400 + x := wrap64_id (by omega) (by omega)
      refine ⟨List.replicate (400 + x).toNat 0, p4, q4, ?_, s4.up (by omega), B.zeros _, by rw [List.length_replicate]; omega⟩
      refine Ev.bind e1 (Ev.bind (Ev.const e2) (Ev.ite (fun h => absurd h c0) (fun _ => Ev.ite (fun h => absurd h c1) (fun _ => Ev.ite (fun _ => ?_) (fun h => absurd c2 h)))))
      refine Ev.bind (Ev.const e3) (Ev.ite (fun _ => ?_) (fun h => absurd cb h))
      refine Ev.bind (Ev.const e4) ?_
      rw [w]
      exact Ev.ite (fun _ => Ev.ite (fun _ => Ev.pure _) (fun h => absurd (by omega) h)) (fun h => absurd (by omega) h)
    · exact ⟨t, p3, q3, Ev.bind e1 (Ev.bind (Ev.const e2) (Ev.ite (fun h => absurd h c0) (fun _ => Ev.ite (fun h => absurd h c1) (fun _ => Ev.ite (fun _ => Ev.bind (Ev.const e3) (Ev.ite (fun h => absurd h cb) (fun _ => Ev.pure _))) (fun h => absurd c2 h))))), s3.up (by omega), b1, by omega⟩
  · exact ⟨t, p2, q2, Ev.bind e1 (Ev.bind (Ev.const e2) (Ev.ite (fun h => absurd h c0) (fun _ => Ev.ite (fun h => absurd h c1) (fun _ => Ev.ite (fun h => absurd h c2) (fun _ => Ev.pure _))))), s2.up (by omega), b1, by omega⟩
theorem badText40_ok {s : List Int} (hs : Src s) {n p q : Int} (h : St n p q) (hn : n ≤ 400000000) :
    ∃ y p' q', Ev (fun k => spec_l01Cur_badText.f k s p q 40) (y, p', q') ∧ St (n + 200) p' q' ∧ B y ∧ (y.length : Int) ≤ 2000 := by
  obtain ⟨y, p', q', h1, h2, h3, h4⟩ := badText_ok hs h hn (a := 40) (by omega)
  exact ⟨y, p', q', h1, h2.up (by omega), h3, h4⟩
theorem badText9_ok {s : List Int} (hs : Src s) {n p q : Int} (h : St n p q) (hn : n ≤ 400000000) :
    ∃ y p' q', Ev (fun k => spec_l01Cur_badText.f k s p q 9) (y, p', q') ∧ St (n + 100) p' q' ∧ B y ∧ (y.length : Int) ≤ 2000 := by
  obtain ⟨y, p', q', h1, h2, h3, h4⟩ := badText_ok hs h hn (a := 9) (by omega)
  exact ⟨y, p', q', h1, h2.up (by omega), h3, h4⟩
theorem badEdit_ok {s : List Int} (hs : Src s) {n p q : Int} (h : St n p q) (hn : n ≤ 300000000) {l : List Int} (hB : B l) (hl : (l.length : Int) ≤ 400) : ∃ a c m p' q', Ev (fun k => spec_l01Cur_badEdit.f k s p q l) (a, c, m, p', q') ∧ St (n + 200) p' q' ∧ B m := by
  obtain ⟨a, c, m, p1, q1, e1, s1, b1, _⟩ := edit_ok hs h (by omega) hB
  obtain ⟨r, p2, q2, e2, s2, _⟩ := pick_ok hs s1 (by omega) (a := 12) (by omega)
  by_cases c0 : r = 0
  · obtain ⟨x, p3, q3, e3, s3⟩ := raw_ok hs s2 (by omega)
    exact ⟨x, c, m, p3, q3, Ev.bind e1 (Ev.bind (Ev.const e2) (Ev.ite (fun _ => Ev.bind (Ev.const e3) (Ev.pure _)) (fun h => absurd c0 h))), s3.up (by omega), b1⟩
  by_cases c1 : r = 1
  · obtain ⟨x, p3, q3, e3, s3⟩ := raw_ok hs s2 (by omega)
    exact ⟨a, x, m, p3, q3, Ev.bind e1 (Ev.bind (Ev.const e2) (Ev.ite (fun h => absurd h c0) (fun _ => Ev.ite (fun _ => Ev.bind (Ev.const e3) (Ev.pure _)) (fun h => absurd c1 h)))), s3.up (by omega), b1⟩
  by_cases c2 : r = 2
  · obtain ⟨y, p3, q3, e3, s3, b3, _⟩ := badText9_ok hs s2 (by omega)
    exact ⟨a, c, y, p3, q3, Ev.bind e1 (Ev.bind (Ev.const e2) (Ev.ite (fun h => absurd h c0) (fun _ => Ev.ite (fun h => absurd h c1) (fun _ => Ev.ite (fun _ => Ev.bind e3 (Ev.pure _)) (fun h => absurd c2 h))))), s3.up (by omega), b3⟩
  by_cases c3 : r = 3
  · obtain ⟨x, p3, q3, e3, s3, x0, x1, _⟩ := pick_ok hs s2 (by omega) (a := 3) (by omega)
    have x1 := x1 (by omega)
    have w : wrap64 (wrap64 (400 - (l.length : Int)) + x) = 400 - (l.length : Int) + x := by rw [wrap64_id (n := 400 - (l.length : Int)) (by omega) (by omega), wrap64_id (by omega) (by omega)]
    refine ⟨a, c, List.replicate (400 - (l.length : Int) + x).toNat 0, p3, q3, ?_, s3.up (by omega), B.zeros _⟩
    refine Ev.bind e1 (Ev.bind (Ev.const e2) (Ev.ite (fun h => absurd h c0) (fun _ => Ev.ite (fun h => absurd h c1) (fun _ => Ev.ite (fun h => absurd h c2) (fun _ => Ev.ite (fun _ => ?_) (fun h => absurd c3 h))))))
    refine Ev.bind (Ev.const e3) ?_
    rw [w]
    exact Ev.ite (fun _ => Ev.ite (fun _ => Ev.pure _) (fun h => absurd (by omega) h)) (fun h => absurd (by omega) h)
  · exact ⟨a, c, m, p2, q2, Ev.bind e1 (Ev.bind (Ev.const e2) (Ev.ite (fun h => absurd h c0) (fun _ => Ev.ite (fun h => absurd h c1) (fun _ => Ev.ite (fun h => absurd h c2) (fun _ => Ev.ite (fun h => absurd h c3) (fun _ => Ev.pure _)))))), s2.up (by omega), b1⟩
theorem lpick_ok {s : List Int} (hB : B s) (hl : (s.length : Int) ≤ 1048576) {c0 m : Int} (hc0 : 0 ≤ c0) (hc1 : c0 ≤ 1000) (hm : 1 ≤ m) : ∃ r, Ev (fun k => laws_pick.f k s c0 m) r ∧ 0 ≤ r ∧ r < m := by
  have zero : Ev (fun k => laws_pick.j0 k s c0 m true) 0 := by
    apply Ev.succ
    simp only [laws_pick.j0]
    exact Ev.ite (fun _ => Ev.pure _) (fun h => (h (by first | rfl | trivial)).elim)
  by_cases c : (s.length : Int) = 0
  · refine ⟨0, ?_, by omega, by omega⟩
    simp only [laws_pick.f]
    exact Ev.ite (fun _ => zero) (fun h => absurd c h)
  by_cases c2 : m < 2
  · refine ⟨0, ?_, by omega, by omega⟩
    simp only [laws_pick.f]
    refine Ev.ite (fun _ => zero) (fun _ => ?_)
    rw [show decide (m < 2) = true from decide_eq_true c2]
    exact zero
  have key : ∀ (n : Nat) (x i : Int), 0 ≤ i → i ≤ 3 → 3 - i ≤ n → 0 ≤ x → x ≤ (31 ^ i.toNat) * 300 - 300 → ∃ r, Ev (fun k => laws_pick.l0 k s c0 m x i) r ∧ 0 ≤ r ∧ r < m := by
    intro n
    have fin : ∀ x i : Int, ¬ i < 3 → 0 ≤ x → x ≤ 100000000 → ∃ r, Ev (fun k => laws_pick.l0 k s c0 m x i) r ∧ 0 ≤ r ∧ r < m := by
      intro x i hi h0 h1
      have e : wrap64 (x + c0) = x + c0 := wrap64_id (by omega) (by omega)
      refine ⟨(x + c0) % m, Ev.succ ?_, Int.emod_nonneg _ (by omega), Int.emod_lt_of_pos _ (by omega)⟩
      simp only [laws_pick.l0]
      refine Ev.ite (fun h => absurd h hi) (fun _ => Ev.ite (fun h => absurd h (by omega)) (fun _ => (Ev.pure _).eq ?_))
      rw [e, tmod_nn (by omega)]
    induction n with
    | zero =>
      intro x i h0 h3 hn hx hx2
      have : i = 3 := by omega
      subst this
      exact fin x 3 (by omega) hx (by simpa using Int.le_trans hx2 (by decide))
    | succ n ih =>
      intro x i h0 h3 hn hx hx2
      by_cases d : i < 3
      · have b := hB.rd (Int.tmod (wrap64 (c0 + i)) (s.length : Int))
        have e0 : wrap64 (c0 + i) = c0 + i := wrap64_id (by omega) (by omega)
        have hp : (31 : Int) ^ (i + 1).toNat = 31 * 31 ^ i.toNat := by rw [show (i + 1).toNat = i.toNat + 1 by omega, Int.pow_succ]; omega
        have hp1 : (1 : Int) ≤ 31 ^ i.toNat ∧ (31 : Int) ^ i.toNat ≤ 961 := by
          have : i.toNat = 0 ∨ i.toNat = 1 ∨ i.toNat = 2 := by omega
          rcases this with h | h | h <;> rw [h] <;> decide
        have w1 : wrap64 (31 * x) = 31 * x := wrap64_id (by omega) (by omega)
        have w2 : wrap64 (rd s (Int.tmod (wrap64 (c0 + i)) (s.length : Int))) = rd s (Int.tmod (wrap64 (c0 + i)) (s.length : Int)) := wrap64_id (by omega) (by omega)
        have w3 : wrap64 (31 * x + rd s (Int.tmod (wrap64 (c0 + i)) (s.length : Int))) = 31 * x + rd s (Int.tmod (wrap64 (c0 + i)) (s.length : Int)) := wrap64_id (by omega) (by omega)
        obtain ⟨r, hr, r0, r1⟩ := ih (31 * x + rd s (Int.tmod (wrap64 (c0 + i)) (s.length : Int))) (i + 1) (by omega) (by omega) (by omega) (by omega) (by rw [hp]; omega)
        refine ⟨r, Ev.succ ?_, r0, r1⟩
        simp only [laws_pick.l0]
        refine Ev.ite (fun _ => Ev.ite (fun h => absurd h c) (fun _ => Ev.ite (fun _ => Ev.ite (fun _ => ?_) (fun h => absurd ?_ h)) (fun h => absurd ?_ h))) (fun h => absurd d h)
        · rw [w1, w2, w3, wrap64_id (n := i + 1) (by omega) (by omega)]
          exact hr
        · rw [e0, tmod_nn (by omega)]; exact Int.emod_lt_of_pos _ (by omega)
        · rw [e0, tmod_nn (by omega)]; exact Int.emod_nonneg _ c
      · have : i = 3 := by omega
        subst this
        exact fin x 3 (by omega) hx (by simpa using Int.le_trans hx2 (by decide))
  obtain ⟨r, hr, r0, r1⟩ := key 3 0 0 (by omega) (by omega) (by omega) (by omega) (by simp)
  refine ⟨r, ?_, r0, r1⟩
  simp only [laws_pick.f]
  refine Ev.ite (fun h => absurd h c) (fun _ => ?_)
  rw [show decide (m < 2) = false from decide_eq_false c2]
  apply Ev.succ
  simp only [laws_pick.j0]
  exact Ev.ite (fun h => absurd h (by decide)) (fun _ => hr)
def EB (L : List S25) : Prop := ∀ e ∈ L, B e.f2
theorem EB.app {L M : List S25} (h : EB L) (h2 : EB M) : EB (L ++ M) := fun e he => (List.mem_append.1 he).elim (h e) (h2 e)
theorem EB.one {a c : Int} {m : List Int} (h : B m) : EB [⟨a, c, m⟩] := fun e he => by simp at he; subst he; exact h
theorem edo_B' {l m : List Int} (hl : B l) (hm : B m) (a c : Int) : B (edo l a c m).1 := by
  unfold edo
  split
  · exact ((hl.take _).app hm).app (hl.drop _)
  · exact .nil
theorem edits_loop {s : List Int} (hs : Src s) : ∀ (d : Nat) (t : List Int) (L : List S25) (j n p q : Int), St n p q → n + 50 * d ≤ 300000000 → j ≤ d → B t → EB L → (L.length : Int) + d ≤ 1000 →
    ∃ M p' q', Ev (fun k => edits_sh.l0 k t L j s p q) (M, p', q') ∧ St (n + 50 * d) p' q' ∧ EB M ∧ (M.length : Int) ≤ (L.length : Int) + d := by
  intro d
  induction d with
  | zero =>
    intro t L j n p q hS hn hj ht hL hl
    refine ⟨L, p, q, Ev.succ ?_, hS.up (by omega), hL, by omega⟩
    simp only [edits_sh.l0]
    exact Ev.ite (fun h => absurd h (by omega)) (fun _ => Ev.pure _)
  | succ d ih =>
    intro t L j n p q hS hn hj ht hL hl
    by_cases c : j > 0
    · obtain ⟨a, x, m, p1, q1, e1, s1, b1, _⟩ := edit_ok hs hS (by omega) ht
      have w : wrap64 (j - 1) = j - 1 := wrap64_id (by omega) (by omega)
      by_cases ok : (edo t a x m).2 = true
      · obtain ⟨M, p2, q2, h1, h2, h3, h4⟩ := ih (edo t a x m).1 (L ++ [⟨a, x, m⟩]) (j - 1) (n + 50) p1 q1 s1 (by omega) (by omega) (edo_B' ht b1 a x) (hL.app (EB.one b1)) (by rw [List.length_append]; simp; omega)
        refine ⟨M, p2, q2, Ev.succ ?_, h2.up (by omega), h3, by rw [List.length_append] at h4; simp at h4; omega⟩
        simp only [edits_sh.l0]
        rw [w]
        exact Ev.ite (fun _ => Ev.bind e1 (Ev.bind (EditDo_ev ht b1 a x) (Ev.ite (fun _ => Ev.ite (fun _ => h1) (fun h => absurd (by omega) h)) (fun h => absurd ok h)))) (fun h => absurd c h)
      · obtain ⟨M, p2, q2, h1, h2, h3, h4⟩ := ih t L (j - 1) (n + 50) p1 q1 s1 (by omega) (by omega) ht hL (by omega)
        refine ⟨M, p2, q2, Ev.succ ?_, h2.up (by omega), h3, by omega⟩
        simp only [edits_sh.l0]
        rw [w]
        exact Ev.ite (fun _ => Ev.bind e1 (Ev.bind (EditDo_ev ht b1 a x) (Ev.ite (fun h => absurd h ok) (fun _ => h1)))) (fun h => absurd c h)
    · refine ⟨L, p, q, Ev.succ ?_, hS.up (by omega), hL, by omega⟩
      simp only [edits_sh.l0]
      exact Ev.ite (fun h => absurd h c) (fun _ => Ev.pure _)
theorem edits_ok {s : List Int} (hs : Src s) {n p q : Int} (h : St n p q) (hn : n ≤ 100000000) {t : List Int} (ht : B t) {a : Nat} (ha : a ≤ 900) :
    ∃ M p' q', Ev (fun k => spec_l01Cur_edits.f k s p q t (a : Int)) (M, p', q') ∧ St (n + 1 + 50 * a) p' q' ∧ EB M ∧ (M.length : Int) ≤ a := by
  obtain ⟨r, p1, q1, e1, s1, r0, r1⟩ := size_ok hs h (by omega) (a := (a : Int)) (by omega) (by omega)
  obtain ⟨M, p', q', h1, h2, h3, h4⟩ := edits_loop hs a t [] r (n + 1) p1 q1 s1 (by omega) r1 ht (by intro e he; cases he) (by simp; omega)
  exact ⟨M, p', q', Ev.bind (Ev.const e1) h1, h2, h3, by simpa using h4⟩
theorem edits9_ok {s : List Int} (hs : Src s) {n p q : Int} (h : St n p q) (hn : n ≤ 100000000) {t : List Int} (ht : B t) :
    ∃ M p' q', Ev (fun k => spec_l01Cur_edits.f k s p q t 9) (M, p', q') ∧ St (n + 500) p' q' ∧ EB M ∧ (M.length : Int) ≤ 9 := by
  obtain ⟨M, p', q', h1, h2, h3, h4⟩ := edits_ok hs h hn ht (a := 9) (by omega)
  exact ⟨M, p', q', h1, h2.up (by omega), h3, h4⟩
theorem open_st2 {s : List Int} (hs : Src s) : St 0 0 (97 + (s.length : Int) % 1000) := ⟨by omega, by omega, by omega, by omega⟩
theorem DrawEditsDo_ok {s : List Int} (hs : Src s) : ∃ t L, Ev (fun k => spec_DrawEditsDo.f k s) (t, L) ∧ B t ∧ EB L ∧ (L.length : Int) ≤ 11 ∧ (t.length : Int) ≤ 2000 := by
  obtain ⟨t, p1, q1, e1, s1, b1, l1⟩ := text40_ok hs (open_st2 hs) (by omega)
  obtain ⟨M, p2, q2, e2, s2, b2, l2⟩ := edits9_ok hs s1 (by omega) b1
  obtain ⟨b, p3, q3, e3, s3⟩ := once_ok hs s2 (by omega) (a := 3) (by omega)
  have last : ∀ (n p q : Int) (L : List S25), St n p q → n ≤ 100000000 → EB L → (L.length : Int) ≤ 11 → ∃ u, Ev (fun k => spec_DrawEditsDo.j0 k t L s p q) (u, L) ∧ B u ∧ (u.length : Int) ≤ 2000 := by
    intro n p q L hS hn hL hl
    obtain ⟨c, p4, q4, e4, s4⟩ := once_ok hs hS (by omega) (a := 12) (by omega)
    by_cases cc : c = true
    · obtain ⟨u, p5, q5, e5, s5, b5, l5⟩ := badText40_ok hs s4 (by omega)
      refine ⟨u, Ev.succ ?_, b5, l5⟩
      simp only [spec_DrawEditsDo.j0]
      exact Ev.bind (Ev.const e4) (Ev.ite (fun _ => Ev.bind e5 (Ev.pure _)) (fun h => absurd cc h))
    · refine ⟨t, Ev.succ ?_, b1, by omega⟩
      simp only [spec_DrawEditsDo.j0]
      exact Ev.bind (Ev.const e4) (Ev.ite (fun h => absurd h cc) (fun _ => Ev.pure _))
  have hO : Ev (fun k => spec_l01Open.f s) (s, 0, 97 + (s.length : Int) % 1000) := Ev.const rfl
  by_cases cb : b = true
  · obtain ⟨a, x, m, p4, q4, e4, s4, b4⟩ := badEdit_ok hs s3 (by omega) b1 (by omega)
    obtain ⟨a', x', m', p5, q5, e5, s5, b5, _⟩ := edit_ok hs s4 (by omega) b1
    have hL : EB (M ++ [⟨a, x, m⟩, ⟨a', x', m'⟩]) := b2.app (by
      intro e he
      simp at he
      rcases he with rfl | rfl
      · exact b4
      · exact b5)
    obtain ⟨u, h1, h2, h3⟩ := last _ p5 q5 (M ++ [⟨a, x, m⟩, ⟨a', x', m'⟩]) s5 (by omega) hL (by rw [List.length_append]; simp; omega)
    refine ⟨u, _, Ev.bind hO (Ev.bind e1 (Ev.bind e2 (Ev.bind (Ev.const e3) (Ev.ite (fun _ => Ev.bind e4 (Ev.bind e5 (Ev.bind (Ev.pure _) (Ev.ite (fun _ => h1) (fun h => absurd ?_ h))))) (fun h => absurd cb h))))), h2, hL, by rw [List.length_append]; simp; omega, h3⟩
    simp; omega
  · obtain ⟨u, h1, h2, h3⟩ := last _ p3 q3 M s3 (by omega) b2 (by omega)
    exact ⟨u, M, Ev.bind hO (Ev.bind e1 (Ev.bind e2 (Ev.bind (Ev.const e3) (Ev.ite (fun h => absurd h cb) (fun _ => h1))))), h2, b2, by omega, h3⟩
noncomputable def erun : List S25 → List Int → List Int × Nat
  | [], t => (t, 0)
  | e :: L, t => if EOk t e.f0 e.f1 e.f2 then ((erun L (t.take e.f0.toNat ++ e.f2 ++ t.drop (e.f0 + e.f1).toNat)).1, (erun L (t.take e.f0.toNat ++ e.f2 ++ t.drop (e.f0 + e.f1).toNat)).2 + 1) else (t, 0)
def TOk (t : List Int) : Prop := (t.length : Int) ≤ 400 ∧ Utf t
theorem EOk.next {t m : List Int} {a c : Int} (h : EOk t a c m) : TOk (t.take a.toNat ++ m ++ t.drop (a + c).toNat) := by
  obtain ⟨t1, t2, t3, t4, t5, t6, t7, t8⟩ := h
  have ra := t2.range
  refine ⟨?_, (t2.take.1.app t7).app t5.take.2⟩
  simp only [List.length_append, List.length_take, List.length_drop]
  omega
theorem erun_le : ∀ (L : List S25) (t : List Int), (erun L t).2 ≤ L.length
  | [], t => by simp [erun]
  | e :: L, t => by
    unfold erun
    split
    · have := erun_le L (t.take e.f0.toNat ++ e.f2 ++ t.drop (e.f0 + e.f1).toNat)
      simp only [List.length_cons]; omega
    · simp
theorem erun_B : ∀ (L : List S25) (t : List Int), EB L → B t → B (erun L t).1
  | [], t, _, h => h
  | e :: L, t, hL, h => by
    unfold erun
    split
    · exact erun_B L _ (fun x hx => hL x (by simp [hx])) (((h.take _).app (hL e (by simp))).app (h.drop _))
    · exact h
theorem erun_TOk : ∀ (L : List S25) (t : List Int), TOk t → TOk (erun L t).1
  | [], t, h => h
  | e :: L, t, h => by
    unfold erun
    split
    · rename_i hE; exact erun_TOk L _ hE.next
    · exact h
theorem erun_split : ∀ (r : Nat) (L : List S25) (t : List Int), r ≤ (erun L t).2 → (erun (L.take r) t).2 = r ∧ erun (L.drop r) (erun (L.take r) t).1 = ((erun L t).1, (erun L t).2 - r)
  | 0, L, t, _ => by simp [erun]
  | r + 1, [], t, h => by simp [erun] at h
  | r + 1, e :: L, t, h => by
    by_cases hE : EOk t e.f0 e.f1 e.f2
    · have e1 : ∀ M, erun (e :: M) t = ((erun M (t.take e.f0.toNat ++ e.f2 ++ t.drop (e.f0 + e.f1).toNat)).1, (erun M (t.take e.f0.toNat ++ e.f2 ++ t.drop (e.f0 + e.f1).toNat)).2 + 1) := fun M => by
        conv => lhs; unfold erun
        rw [if_pos hE]
      rw [e1] at h
      have ih := erun_split r L (t.take e.f0.toNat ++ e.f2 ++ t.drop (e.f0 + e.f1).toNat) (Nat.le_of_succ_le_succ h)
      rw [List.take_succ_cons, List.drop_succ_cons, e1, e1]
      simp only
      refine ⟨by rw [ih.1], ?_⟩
      rw [ih.2, Nat.add_sub_add_right]
    · have e1 : erun (e :: L) t = (t, 0) := by
        conv => lhs; unfold erun
        rw [if_neg hE]
      rw [e1] at h
      simp at h
theorem rd25_drop {L : List S25} {i : Int} (h0 : 0 ≤ i) (h1 : i < (L.length : Int)) : L.drop i.toNat = rd_T25 L i :: L.drop (i + 1).toNat := by
  rw [List.drop_eq_getElem_cons (show i.toNat < L.length by omega), show (i + 1).toNat = i.toNat + 1 by omega]
  unfold rd_T25
  rw [List.getD_eq_getElem?_getD, List.getElem?_eq_getElem (show i.toNat < L.length by omega)]; rfl
theorem rd25_B {L : List S25} (h : EB L) {i : Int} (h0 : 0 ≤ i) (h1 : i < (L.length : Int)) : B (rd_T25 L i).f2 := by
  refine h _ ?_
  unfold rd_T25
  rw [List.getD_eq_getElem?_getD, List.getElem?_eq_getElem (show i.toNat < L.length by omega)]
  exact List.getElem_mem _
theorem sEditsDo_l0 {L : List S25} (hL : EB L) (hl : (L.length : Int) ≤ 1000000) : ∀ (n : Nat) (t : List Int) (i : Int), 0 ≤ i → i ≤ (L.length : Int) → (L.length : Int) - i ≤ n → B t →
    Ev (fun k => spec_EditsDo.l0 k L t i) ((erun (L.drop i.toNat) t).1, i + ((erun (L.drop i.toNat) t).2 : Int)) := by
  intro n
  have stop : ∀ (t : List Int) (i : Int), i = (L.length : Int) → Ev (fun k => spec_EditsDo.l0 k L t i) ((erun (L.drop i.toNat) t).1, i + ((erun (L.drop i.toNat) t).2 : Int)) := by
    intro t i hi
    apply Ev.succ
    simp only [spec_EditsDo.l0]
    rw [List.drop_eq_nil_of_le (by omega)]
    exact Ev.ite (fun h => absurd h (by omega)) (fun _ => (Ev.pure _).eq (by simp [erun, hi]))
  induction n with
  | zero => intro t i h0 h1 hn ht; exact stop t i (by omega)
  | succ n ih =>
    intro t i h0 h1 hn ht
    by_cases c : i < (L.length : Int)
    · rw [rd25_drop h0 c]
      have bm := rd25_B hL h0 c
      apply Ev.succ
      simp only [spec_EditsDo.l0]
      rw [wrap64_id (n := i + 1) (by omega) (by omega)]
      refine Ev.ite (fun _ => Ev.ite (fun _ => Ev.bind (EditDo_ev ht bm _ _) ?_) (fun h => absurd h0 h)) (fun h => absurd c h)
      by_cases hE : EOk t (rd_T25 L i).f0 (rd_T25 L i).f1 (rd_T25 L i).f2
      · have e1 : edo t (rd_T25 L i).f0 (rd_T25 L i).f1 (rd_T25 L i).f2 = (t.take (rd_T25 L i).f0.toNat ++ (rd_T25 L i).f2 ++ t.drop ((rd_T25 L i).f0 + (rd_T25 L i).f1).toNat, true) := by unfold edo; rw [if_pos hE]
        rw [e1]
        refine Ev.ite (fun _ => ?_) (fun h => (h rfl).elim)
        refine (ih _ (i + 1) (by omega) (by omega) (by omega) (((ht.take _).app bm).app (ht.drop _))).eq ?_
        conv => rhs; unfold erun
        rw [if_pos hE]
        refine Prod.ext rfl ?_
        simp only
        omega
      · have e1 : edo t (rd_T25 L i).f0 (rd_T25 L i).f1 (rd_T25 L i).f2 = ([], false) := by unfold edo; rw [if_neg hE]
        rw [e1]
        refine Ev.ite (fun h => absurd h Bool.false_ne_true) (fun _ => (Ev.pure _).eq ?_)
        conv => rhs; unfold erun
        rw [if_neg hE]
        simp
    · exact stop t i (by omega)
theorem iEditsDo_l0 {L : List S25} (hL : EB L) (hl : (L.length : Int) ≤ 1000000) : ∀ (n : Nat) (t : List Int) (i : Int), 0 ≤ i → i ≤ (L.length : Int) → (L.length : Int) - i ≤ n → B t →
    Ev (fun k => impl_EditsDo.l0 k t i L (L.length : Int) i) ((erun (L.drop i.toNat) t).1, i + ((erun (L.drop i.toNat) t).2 : Int)) := by
  intro n
  have stop : ∀ (t : List Int) (i : Int), i = (L.length : Int) → Ev (fun k => impl_EditsDo.l0 k t i L (L.length : Int) i) ((erun (L.drop i.toNat) t).1, i + ((erun (L.drop i.toNat) t).2 : Int)) := by
    intro t i hi
    apply Ev.succ
    simp only [impl_EditsDo.l0]
    rw [List.drop_eq_nil_of_le (by omega)]
    exact Ev.ite (fun h => absurd h (by omega)) (fun _ => (Ev.pure _).eq (by simp [erun]))
  induction n with
  | zero => intro t i h0 h1 hn ht; exact stop t i (by omega)
  | succ n ih =>
    intro t i h0 h1 hn ht
    by_cases c : i < (L.length : Int)
    · rw [rd25_drop h0 c]
      have bm := rd25_B hL h0 c
      apply Ev.succ
      simp only [impl_EditsDo.l0]
      rw [wrap64_id (n := i + 1) (by omega) (by omega)]
      refine Ev.ite (fun _ => Ev.ite (fun _ => Ev.ite (fun _ => Ev.bind (isEdit_ev ht bm _ _) ?_) (fun h => absurd c h)) (fun h => absurd h0 h)) (fun h => absurd c h)
      by_cases hE : EOk t (rd_T25 L i).f0 (rd_T25 L i).f1 (rd_T25 L i).f2
      · rw [decide_eq_true hE]
        have h1' := hE.1
        have hr := hE.2.1.range
        have h2' := hE.2.2.1
        have h3' := hE.2.2.2.1
        have h4' := hE.2.2.2.2.2.1
        refine Ev.ite (fun _ => Ev.bind (Edit_do_ev (by omega) (by omega) hr.1 hr.2 (by omega) (by omega)) ?_) (fun h => (h rfl).elim)
        refine (ih _ (i + 1) (by omega) (by omega) (by omega) (((ht.take _).app bm).app (ht.drop _))).eq ?_
        conv => rhs; unfold erun
        rw [if_pos hE]
        refine Prod.ext rfl ?_
        simp only
        omega
      · rw [decide_eq_false hE]
        refine Ev.ite (fun h => absurd h Bool.false_ne_true) (fun _ => (Ev.pure _).eq ?_)
        conv => rhs; unfold erun
        rw [if_neg hE]
        simp
    · exact stop t i (by omega)
noncomputable def eall (L : List S25) (t : List Int) : List Int × Int := if TOk t then ((erun L t).1, ((erun L t).2 : Int)) else ([], -1)
theorem sEditsDo_ev {L : List S25} (hL : EB L) (hl : (L.length : Int) ≤ 1000000) {t : List Int} (ht : B t) : Ev (fun k => spec_EditsDo.f k t L) (eall L t) := by
  refine Ev.bind (TextOk_ev ht) ?_
  unfold eall
  by_cases h : TOk t
  · rw [if_pos h, decide_eq_true (show (t.length : Int) ≤ 400 ∧ Utf t from h)]
    have h1 := h.1
    refine Ev.ite (fun _ => Ev.bind (Ev.pure _) (Ev.ite (fun _ => ?_) (fun h2 => absurd ?_ h2))) (fun h2 => (h2 rfl).elim)
    · exact (sEditsDo_l0 hL hl L.length t 0 (by omega) (by omega) (by omega) ht).eq (by simp)
    · simp only [List.length_nil]; omega
  · rw [if_neg h, decide_eq_false (show ¬ ((t.length : Int) ≤ 400 ∧ Utf t) from h)]
    exact Ev.ite (fun h2 => absurd h2 Bool.false_ne_true) (fun _ => Ev.pure _)
theorem iEditsDo_ev {L : List S25} (hL : EB L) (hl : (L.length : Int) ≤ 1000000) {t : List Int} (ht : B t) : Ev (fun k => impl_EditsDo.f k t L) (eall L t) := by
  refine Ev.bind (isText_ev ht) ?_
  unfold eall
  by_cases h : TOk t
  · rw [if_pos h, decide_eq_true (show (t.length : Int) ≤ 400 ∧ Utf t from h)]
    have h1 := h.1
    refine Ev.ite (fun _ => Ev.bind (Ev.const (v := t) ?_) ?_) (fun h2 => (h2 rfl).elim)
    · unfold slices_Clone_byte_byte.f; rw [if_pos (by omega)]
    · exact (iEditsDo_l0 hL hl L.length t 0 (by omega) (by omega) (by omega) ht).eq (by simp)
  · rw [if_neg h, decide_eq_false (show ¬ ((t.length : Int) ≤ 400 ∧ Utf t) from h)]
    exact Ev.ite (fun h2 => absurd h2 Bool.false_ne_true) (fun _ => Ev.pure _)
theorem pure_FnEditsDo : laws_FnEditsDo.Pure := by
  intro s _ _ hw
  apply Ev.of
  have hB := B.of_wf hw
  refine Ev.bind (Ev.const (v := decide ((s.length : Int) > 1048576)) rfl) (Ev.ite (fun _ => Ev.pure _) (fun h => ?_))
  have hl : (s.length : Int) ≤ 1048576 := by simpa using h
  obtain ⟨t, L, hd, bt, bL, lL, lt⟩ := DrawEditsDo_ok ⟨hB, hl⟩
  refine Ev.bind hd (Ev.bind (sEditsDo_ev bL (by omega) bt) (Ev.bind (iEditsDo_ev bL (by omega) bt) ?_))
  refine Ev.ite (fun _ => Ev.ite (fun _ => ?_) (fun h => (h (by first | rfl | trivial)).elim)) (fun h => (h (by first | rfl | trivial)).elim)
  unfold eall
  by_cases hT : TOk t
  · rw [if_pos hT]
    have hle := erun_le L t
    rw [show decide (((erun L t).1, ((erun L t).2 : Int)).2 < 0) = false from decide_eq_false (by simp)]
    apply Ev.succ
    simp only [laws_FnEditsDo.j0]
    refine Ev.ite (fun h => absurd h (by decide)) (fun _ => ?_)
    obtain ⟨r, hr, r0, r1⟩ := lpick_ok hB hl (c0 := 3) (m := ((erun L t).2 : Int) + 1) (by omega) (by omega) (by omega)
    rw [wrap64_id (n := ((erun L t).2 : Int) + 1) (by omega) (by omega)]
    refine Ev.bind hr ?_
    have sp := erun_split r.toNat L t (by omega)
    have bt1 : EB (L.take r.toNat) := fun e he => bL e (List.mem_of_mem_take he)
    have bd1 : EB (L.drop r.toNat) := fun e he => bL e (List.mem_of_mem_drop he)
    have l1 : ((L.take r.toNat).length : Int) ≤ 1000000 := by rw [List.length_take]; omega
    have l2 : ((L.drop r.toNat).length : Int) ≤ 1000000 := by rw [List.length_drop]; omega
    have v1 : eall (L.take r.toNat) t = ((erun (L.take r.toNat) t).1, r) := by
      unfold eall; rw [if_pos hT, sp.1]; refine Prod.ext rfl ?_; simp only; omega
    have v2 : eall (L.drop r.toNat) (erun (L.take r.toNat) t).1 = ((erun L t).1, ((erun L t).2 : Int) - r) := by
      unfold eall; rw [if_pos (erun_TOk _ _ hT), sp.2]; refine Prod.ext rfl ?_; simp only; omega
    have ba := erun_B _ _ bt1 bt
    refine Ev.ite (fun _ => Ev.ite (fun _ => Ev.bind ((iEditsDo_ev bt1 l1 bt).eq v1) (Ev.bind ((iEditsDo_ev bd1 l2 ba).eq v2) ?_)) (fun h => absurd (by omega) h)) (fun h => absurd r0 h)
    rw [wrap64_id (n := ((erun L t).2 : Int) - r) (by omega) (by omega)]
    refine Ev.ite (fun _ => Ev.ite (fun _ => ?_) (fun h => (h (by first | rfl | trivial)).elim)) (fun h => (h (by first | rfl | trivial)).elim)
    apply Ev.succ
    simp only [laws_FnEditsDo.j1]
    exact (Ev.pure _).eq (by simp)
  · rw [if_neg hT]
    rw [show decide ((([] : List Int), (-1 : Int)).2 < 0) = true from rfl]
    apply Ev.succ
    simp only [laws_FnEditsDo.j0]
    exact Ev.ite (fun _ => Ev.ite (fun _ => (Ev.pure _).eq (by simp)) (fun h => (h (by first | rfl | trivial)).elim)) (fun h => (h (by first | rfl | trivial)).elim)
end Go.Proofs.YteapbiiffcchbaaDoor.V
namespace Go.Proofs.YteapbiiffcchbaaDoor.fnEditsDo
open Go.ChangeShapes Go.WideShapes Go.ChangeAt Go.RowKit Go.Lib
open Go.ChangeMaps (open_string shut_string)
set_option linter.unusedVariables false
theorem own : ownKnob Tryd.prog.godebug = none := by kernel_rfl
theorem laidOut : laidOutB Tryd.prog = true := by kernel_rfl
def ren : Go.Shelf.Ren := ⟨fun x => x, fun x => if x = 119 then 159 else if x = 138 then 161 else if x = 139 then 162 else x, fun x => if x = 3 then 0 else if x = 4 then 1 else x⟩
theorem types : U8Types Tryd.prog ren := ⟨Tryd.underlying5, Tryd.underlying159, Tryd.underlying161, Tryd.underlying162⟩
theorem eFirst : Rows.laid_unicode_utf8_first = Lib.firstData := by kernel_rfl
theorem eAccept : Rows.laid_unicode_utf8_acceptRanges = Lib.acceptData := by kernel_rfl
noncomputable def laidWorld (os : Os) : World :=
  let w0 := World.holding Tryd.prog os ⟨#[], #[], []⟩
  let put (h : Array Obj) (g : Nat) (cs : Array Value) : Array Obj := h.modify g fun
    | .cells _ t frozen => .cells cs t frozen
    | o => o
  let h1 := put w0.heap 0 (Lib.firstTab.map fun z => Value.int .u8 z).toArray
  let h2 := put h1 1 ((List.range 16).flatMap fun i => [Value.int .u8 (Lib.accLo i), Value.int .u8 (Lib.accHi i)]).toArray
  { w0 with heap := h2 }
theorem laid_met (os : Os) (args : Array Value) : laidMet Tryd.prog Rows.fnEditsDoRow.laid ((laidWorld os).forCall (fun _ _ => 0) ⟨#[], args, []⟩).memory :=
  (LaidIn.of_run (l := Rows.fnEditsDoRow.laid) [0, 1] 8 (by kernel_rfl) (by kernel_rfl) (by kernel_rfl) (by kernel_rfl)).met
theorem witness_row (os : Os) {H : Type} (enc : TypeId × Value → H) :
    (OpenSpec.ofChange Rows.fnEditsDoSpec).preRow enc Tryd.prog Tryd.f5 Rows.fnEditsDoRow.domain false Rows.fnEditsDoRow.laid ((laidWorld os).forCall (fun _ _ => 0) ⟨#[], #[.slice none 0 0], []⟩).memory #[.slice none 0 0] := by
  have hw : (DataW.whole enc Tryd.prog ((laidWorld os).forCall (fun _ _ => 0) ⟨#[], #[.slice none 0 0], []⟩).memory Tryd.f5.params.toList (OpenSpec.ofChange Rows.fnEditsDoSpec).vars false #[Value.slice none 0 0].toList 8).map (fun x => (x.1, x.2.1)) =
      some ([.nil], []) := by kernel_rfl
  obtain ⟨⟨x1, x2, x3⟩, hx, hx1⟩ := Option.map_eq_some_iff.1 hw
  simp only [Prod.mk.injEq] at hx1
  obtain ⟨rfl, rfl⟩ := hx1
  exact OpenSpec.preRow_of_cond 8 hx (by kernel_rfl) (fun k hk => by cases hk) (by kernel_rfl) (laid_met os _)
def IsRow (k : IntKind) (w : World) (a : Option Addr) (len cap : Nat) (zs : List Int) : Prop :=
  (a = none ∧ len = 0 ∧ cap = 0 ∧ zs = []) ∨
  ∃ x, a = some x ∧ len ≤ cap ∧ cap ≤ maxLen ∧ zs.length = cap ∧ (∀ i, i < zs.length → w.cell? (x.add i) = some (.int k (zs.getD i 0))) ∧ ∀ n ∈ zs, (Lit.int k n).wf = true
set_option maxRecDepth 100000 in
set_option maxHeartbeats 2000000 in
theorem lifted (os : Os) (started : os.Started) (H : Type) (enc : TypeId × Value → H) (F : Stop.Interp) :
    ReturnsInHanded {} Tryd.checked os 5 .any ((OpenSpec.ofChange Rows.fnEditsDoSpec).preRow enc Tryd.prog Tryd.f5 Rows.fnEditsDoRow.domain false Rows.fnEditsDoRow.laid) (((OpenSpec.ofChange Rows.fnEditsDoSpec).at F).post enc Tryd.prog Tryd.f5 false true false false) := by
  refine returnsInHanded_of_row (C := Tryd.checked) (s := OpenSpec.ofChange Rows.fnEditsDoSpec) own started (by kernel_rfl) Tryd.func5
    (witness_row_atRef (enc := enc) (C := Tryd.checked) false (laidWorld os) #[.slice none 0 0] rfl (by kernel_rfl) (by kernel_rfl) (by kernel_rfl) (witness_row os enc)) ?_
  intro W base args ds gs before hval0 hW _ _ hsz0 hL _ _
  have hsz : (DataW.weightsEach Tryd.prog (Tryd.f5.params.toList ++ Rows.fnEditsDoSpec.plain.varTypes Tryd.prog) (ds ++ gs)).all (· ≤ reachBytes) = true := hsz0
  have hval : ∀ (j : Nat) t v, Tryd.f5.params[j]? = some t → args[j]? = some v → Value.okWide Tryd.prog W .any base t v := hval0
  have hW' := hW
  obtain ⟨p, q, hA0, hV, rfl, hfz, hnd⟩ := hW
  have hA : DataW.TrodAll enc Tryd.prog W 0 (fun _ => true) true Tryd.f5.params.toList args.toList ds p := hA0
  rw [Tryd.params5] at hA hval hsz
  obtain ⟨v0, vs0, d0, ds0, p0, q0, hargs, rfl, rfl, h0, r0⟩ := trodAll_cons hA
  obtain ⟨rfl, rfl, rfl⟩ := trodAll_nil r0
  obtain rfl : args = #[v0] := by cases args; simp_all
  obtain ⟨rfl, rfl⟩ := trodVars_none hV
  obtain ⟨a0, len0, cap0, rfl⟩ := okWide_slice Tryd.underlying22 (hval 0 22 v0 rfl rfl)
  have k0 := h0
  have lt0 : ∀ x ∈ p0, x.block < W.heap.size := by obtain ⟨m, hm⟩ := k0; exact DataW.trod_lt m _ _ _ hm
  obtain ⟨z0, w0⟩ : ∃ zs, IsRow .u8 W a0 len0 cap0 zs := by
    obtain ⟨fuel, hf⟩ := h0
    rcases open_ints Tryd.underlying22 Tryd.underlying5 (by kernel_rfl) hf with ⟨hcs, _⟩ | ⟨x, l, c, zs, hcs, _, hl, hm, hz, _, hcell, hwz⟩
    · simp [Value.cells] at hcs
      obtain ⟨rfl, rfl, rfl⟩ := hcs
      exact ⟨[], .inl ⟨rfl, rfl, rfl, rfl⟩⟩
    · simp [Value.cells] at hcs
      obtain ⟨rfl, rfl, rfl⟩ := hcs
      exact ⟨zs, .inr ⟨_, rfl, hl, hm, by simpa using hz, hcell, hwz⟩⟩
  have y0 : len0 * 1 ≤ 140737488351232 := Go.Proofs.YteapbiiffcchbaaDoorW.PrintWords.sized_ints hsz (j := 0) (t := 22) rfl rfl Tryd.underlying22 Tryd.underlying5 (by kernel_rfl) (by kernel_rfl) h0
  clear hA0 hval0 hsz0 hsz
  have hG : Go.Proofs.YteapbiiffcchbaaDoor.G.GTab W := ⟨utf8Tabs_of_readsT types ⟨by kernel_rfl, by kernel_rfl, by kernel_rfl, by kernel_rfl, by kernel_rfl, by kernel_rfl, by kernel_rfl⟩
    (eFirst ▸ Lib.laidMet.reads hL (.tail _ (.head _))) (eAccept ▸ Lib.laidMet.reads hL (.head _))⟩
  refine (Go.Proofs.YteapbiiffcchbaaDoor.P.laws_FnEditsDo.walk Go.Proofs.YteapbiiffcchbaaDoor.V.pure_FnEditsDo a0 len0 cap0 z0 W w0 y0 hG).mono fun e W' ⟨he, bel⟩ => ?_
  subst he
  exact ⟨_, rfl, _, _, _, [], _, [], hW', trodAll_mk1 (shut_bool Tryd.underlying4 _), trodAll_cons_mk (Below.trod laidOut (by kernel_rfl) (of_decide_eq_true (by kernel_rfl)) k0 bel lt0) trodAll_mk0, rfl, bel.frame _, fun h => by cases h⟩
theorem over : Rows.fnEditsDoRow.holds Tryd.pinned (OpenSpec.ofChange Rows.fnEditsDoSpec) :=
  OpenClaim.holds_of_cond 5 Tryd.f5 rfl rfl rfl rfl rfl rfl rfl ⟨rfl, rfl, rfl, rfl, rfl⟩ rfl rfl rfl rfl rfl (by kernel_rfl) Tryd.func5 (by kernel_rfl)
    (of_decide_eq_true (by kernel_rfl)) (by unfold Func.isWrapper; first | (rw [if_pos (by decide +kernel)]; kernel_rfl) | (rw [if_neg (by decide +kernel)]; exact ⟨rfl, rfl⟩))
    (fun os started H enc _ F0 => by rw [OpenClaim.pre_eq_preRow]; exact lifted os started H enc F0)
theorem said : Rows.FnEditsDoSaid := over
theorem card : Rows.FnEditsDoCardSaid :=
  Claim7.holds_tied_plain_at .later [] [.data, .pinned] true (true, "06124a4cfdb85dedaeecd8b2c313edae634e03dad06193a7f354c22053534571") false
    said (fun _ h => by cases h) (by kernel_rfl) (fun _ h => by cases h) fnEditsDo_row_tie rfl ⟨rfl, rfl⟩ (by kernel_rfl) rfl
    (fun f fn hf hfn => by
      obtain rfl : f = 5 := Option.some.inj ((show Tryd.prog.funcNamed "loop.example/g00677/laws.FnEditsDo" = some 5 by kernel_rfl).symm.trans hf) |>.symm
      obtain rfl : fn = Tryd.f5 := (Option.some.inj (Tryd.func5.symm.trans hfn)).symm
      exact ⟨by kernel_rfl, fun j t ht => by
        rw [Tryd.params5] at ht
        have h3 : t = 22 := by
          rcases j with _ | j
          · simpa using ht.symm
          · simp at ht
        subst h3
        exact (show Tryd.prog.wantsStandIn 22 = false by kernel_rfl)⟩)
    (by kernel_rfl)
#print axioms card
end Go.Proofs.YteapbiiffcchbaaDoor.fnEditsDo
namespace Go.Proofs.YteapbiiffcchbaaDoor
theorem fnEditsDo_card : Rows.FnEditsDoCardSaid := fnEditsDo.card
end Go.Proofs.YteapbiiffcchbaaDoor
