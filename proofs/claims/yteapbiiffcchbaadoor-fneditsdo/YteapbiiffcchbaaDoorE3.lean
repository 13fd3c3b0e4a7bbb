/- The law FnEditsDo (applying a list of edits in two parts has the same effect as applying it at once) returns true for every input and leaves its input as it was; conditions: the two tables of unicode/utf8 hold what the program's text lays (tied by the card). Part 3 of 5: joined by a program of the session's (wip/pack.py) out of its own texts and of the printed words, without remarks and without what nothing names. Not trusted: Lean checks it. -/
import Derived.Test.YteapbiiffcchbaaDoorE2
import Derived.Lib.SliceRun
import Derived.Deep.Draws
import Derived.OwnWalk
namespace Go.Proofs.YteapbiiffcchbaaDoor.P
open Go.Proofs.YteapbiiffcchbaaDoor.G
open Go.RowKit Go.Proofs.YteapbiiffcchbaaDoorW.PrintWords Go.Proofs.YteapbiiffcchbaaDoorW.PrintLast Go.Proofs.YteapbiiffcchbaaDoorW.PrintMore
attribute [local go_sem] max2_int min2_int max_two min_two max_three min_three max_four min_four
set_option linter.unusedVariables false
set_option linter.unusedSimpArgs false
def spec_RopeOf.f (k : Nat) (l0 : List Int) : Option ((List (S125)) × Bool) := (spec_TextOk.f k l0).bind fun t122002 => (if t122002 = true then ((spec_ChunksOf.f k l0).bind fun t122003 => (some (t122003, true))) else (some (([] : List (S125)), false)))
theorem spec_RopeOf.mono : ∀ a0 k, LeO (spec_RopeOf.f k a0) (spec_RopeOf.f (k + 1) a0) := by
 intro a0 k
 unfold spec_RopeOf.f
 repeat' first
   | (with_reducible exact spec_ChunksOf.mono _ _)
   | (with_reducible exact spec_TextOk.mono _ _)
   | (with_reducible exact LeO.refl _)
   | (with_reducible exact LeO.none _)
   | (with_reducible refine LeO.ite ?_ ?_)
   | (with_reducible refine LeO.bind ?_ (fun _ => ?_))
   | exact spec_ChunksOf.mono _ _
   | exact spec_TextOk.mono _ _
   | exact LeO.none _
   | refine LeO.ite ?_ ?_
   | refine LeO.bind ?_ (fun _ => ?_)
set_option maxHeartbeats 8000000 in
set_option maxRecDepth 100000 in
theorem spec_RopeOf.calls (k : Nat) (A0 : Option Addr) (c0 : Nat) (l0 : List Int) (r1 : List (S125)) (r2 : Bool) (w : World) (hr0 : Kd.C (Kd.int .u8) w A0 l0.length l0) (hc0 : l0.length ≤ c0) (h : spec_RopeOf.f k l0 = some (r1, r2)) :
  Calls Tryd.prog 121 #[.slice A0 l0.length c0] w fun e w' => ∃ v0_ : Value, e = .returned (.tuple #[.agg #[v0_], .bool r2]) ∧ Kd.S k125 125 w' w.heap.size (fun _ => True) v0_ r1 ∧ Below w.heap.size w w' := by
 have hu71 := Tryd.underlying71
 have HR0 := Aside0.mk hr0
 have HC0 := Aside0.mk hc0
 clear hr0 hc0
 have HB := Aside0.mk (Below.refl w.heap.size w)
 have H : ((spec_TextOk.f k l0).bind fun t122002 => (if t122002 = true then ((spec_ChunksOf.f k l0).bind fun t122003 => (some (t122003, true))) else (some (([] : List (S125)), false)))) = some (r1, r2) := h
 clear h
 replace H := Option.bind_eq_some_iff.mp H
 obtain ⟨t122002, A20, H⟩ := H
 replace H : (if t122002 = true then ((spec_ChunksOf.f k l0).bind fun t122003 => (some (t122003, true))) else (some (([] : List (S125)), false))) = some (r1, r2) := H
 have A2 := Aside0.mk A20
 clear A20
 by_cases c3 : t122002 = true
 ·subst c3
  have H1 : ((spec_ChunksOf.f k l0).bind fun t122003 => (some (t122003, true))) = some (r1, r2) := by rw [if_pos rfl] at H; exact H
  clear H
  have H := H1
  clear H1
  replace H := Option.bind_eq_some_iff.mp H
  obtain ⟨t122003, A40, H⟩ := H
  replace H : (some (t122003, true)) = some (r1, r2) := H
  have A4 := Aside0.mk A40
  clear A40
  simp only [Option.some.injEq, Prod.mk.injEq] at H
  obtain ⟨rfl, rfl⟩ := H
  go_enter Tryd.func121, Tryd.ntmps121
  go_wp2_with (first | ((with_reducible refine gate_dst (N := 2) rfl ?_); refine boxE 2 #[.slice none 0 0] 71 ?_; intro gb122001 hg w5 BK122001 hb; have GW122001 := Aside0.mk (gsz hg hbw : w.heap.size ≤ gb122001); have GE122001 := GW122001; replace HB := Aside0.mk (below_step hbw hb); clear hb hg) | ((with_reducible refine gate_callee (f := 74) rfl ?_); refine goesM (some 5) Tryd.func74 #[.slice A0 l0.length c0] ?_; (with_reducible refine (spec_TextOk.calls k _ _ l0 true _ ?side1 ?side2 A2.out).mono ?_); (case side1 => exact cpl (Kd.C_below HR0.out HB.out)); (case side2 => exact HC0.out); rintro e w6 ⟨rfl, hb⟩; refine ⟨_, rfl, ?_⟩; replace BK122001 := Aside0.mk (bkb BK122001 hb); replace HB := Aside0.mk (below_step hbs hb); (try clear hb); (try clear hb2); (try clear hk); (try clear hi)) | ((with_reducible refine gate_callee (f := 98) rfl ?_); refine goesM (some 9) Tryd.func98 #[.slice A0 l0.length c0] ?_; (with_reducible refine (spec_ChunksOf.calls k _ _ l0 t122003 _ ?side1 ?side2 A4.out).mono ?_); (case side1 => exact cpl (Kd.C_below HR0.out HB.out)); (case side2 => exact HC0.out); rintro e w7 ⟨v122004, rfl, ho0, hb⟩; refine ⟨_, rfl, ?_⟩; have HO122005 := Aside0.mk (Kd.S_lower ho0 (below_size hbs)); replace BK122001 := Aside0.mk (bkb BK122001 hb); replace HB := Aside0.mk (below_step hbs hb); (try clear hb); (try clear hb2); (try clear hk); (try clear hi); (try clear ho0); obtain ⟨Ao8, co8, eo8⟩ := Kd.S_slice HO122005.out; subst eo8; have hcz9_0 : w7.cell? ⟨gb122001, 0, none⟩ = some (.slice none 0 0) := (blk_cell BK122001.out 0).trans rfl; have hfz9_0 := blk_frozen BK122001.out 0))
  refine bodyPost_ret (results_ct rfl _ _ gb122001 71 #[.slice Ao8 t122003.length co8] (0, 0) _ rfl (by refine pB ?_; refine blk_put (cs := #[.slice none 0 0]) ?_ 0 _ rfl; refine pB ?_; exact BK122001.out) Tryd.underlying71 rfl (by kernel_rfl)) rfl ?_
  exact ⟨_, erf, by (with_reducible repeat (first | apply Kd.S_alloc | apply Kd.S_drewN | apply Kd.S_drew)); exact Kd.S_mono (Kd.S_far (p := ⟨gb122001, 0, none⟩) (Kd.S_types HO122005.out BK122001.out (by decide)) (fun _ hk => hk.2) (.slice Ao8 t122003.length co8)) (fun _ hk => trivial), hbs⟩
 ·replace c3 := Bool.eq_false_iff.mpr c3
  subst c3
  have H1 : (some (([] : List (S125)), false)) = some (r1, r2) := by rw [if_neg (show ¬ (false = true) by decide)] at H; exact H
  clear H
  have H := H1
  clear H1
  simp only [Option.some.injEq, Prod.mk.injEq] at H
  obtain ⟨rfl, rfl⟩ := H
  go_enter Tryd.func121, Tryd.ntmps121
  go_wp2_with (first | ((with_reducible refine gate_dst (N := 2) rfl ?_); refine boxE 2 #[.slice none 0 0] 71 ?_; intro gb122001 hg w10 BK122001 hb; have GW122001 := Aside0.mk (gsz hg hbw : w.heap.size ≤ gb122001); have GE122001 := GW122001; replace HB := Aside0.mk (below_step hbw hb); clear hb hg) | ((with_reducible refine gate_callee (f := 74) rfl ?_); refine goesM (some 5) Tryd.func74 #[.slice A0 l0.length c0] ?_; (with_reducible refine (spec_TextOk.calls k _ _ l0 false _ ?side1 ?side2 A2.out).mono ?_); (case side1 => exact cpl (Kd.C_below HR0.out HB.out)); (case side2 => exact HC0.out); rintro e w11 ⟨rfl, hb⟩; refine ⟨_, rfl, ?_⟩; replace BK122001 := Aside0.mk (bkb BK122001 hb); replace HB := Aside0.mk (below_step hbs hb); (try clear hb); (try clear hb2); (try clear hk); (try clear hi); have hcz12_0 : w11.cell? ⟨gb122001, 0, none⟩ = some (.slice none 0 0) := (blk_cell BK122001.out 0).trans rfl; have hfz12_0 := blk_frozen BK122001.out 0))
  refine bodyPost_ret (results_ct rfl _ _ gb122001 71 #[.slice none 0 0] (0, 0) _ rfl (by refine pB ?_; refine blk_put (cs := #[.slice none 0 0]) ?_ 0 _ rfl; refine pB ?_; exact BK122001.out) Tryd.underlying71 rfl (by kernel_rfl)) rfl ?_
  exact ⟨_, erf, by first | exact Kd.S_nil _ _ _ _ _ | exact Kd.N_nil _ _ _ _ _ | exact Kd.V_nil _ _ _ _ _ | exact Kd.Q_nil _ _ _ _ _ | exact Kd.R_nil _ _ _ _ _, hbs⟩
def spec_l01Cur_rune.f (s0_0 : List Int) (s0_1 : Int) (s0_2 : Int) : Option (Int × Int × Int) := (spec_l01Cur_pick.f s0_0 s0_1 s0_2 3).bind fun bt121001 => ((spec_l01Cur_pick.f s0_0 bt121001.2.1 bt121001.2.2 3).bind fun bt121004 => ((some (([wrap64 (97 + bt121001.1), wrap64 (97 + bt121004.1), 10, 32, 233, 8364, 128578, 127, 128, 2047, 2048, 65535, 65536, 0] : List Int) : List Int)).bind fun y121007 => ((spec_l01Cur_pick.f s0_0 bt121004.2.1 bt121004.2.2 14).bind fun bt121010 => (if 0 ≤ bt121010.1 then (if bt121010.1 < (y121007.length : Int) then (some (rd y121007 bt121010.1, bt121010.2.1, bt121010.2.2)) else (none)) else (none)))))
set_option maxHeartbeats 8000000 in
set_option maxRecDepth 100000 in
theorem spec_l01Cur_rune.calls (g : Nat) (s0_0 : List Int) (s0_1 : Int) (s0_2 : Int) (r1 : Int) (r2 : Int) (r3 : Int) (w0 w : World) (hI : IsS141 w0 w g s0_0 s0_1 s0_2) (hB : Below w0.heap.size w0 w) (h : spec_l01Cur_rune.f s0_0 s0_1 s0_2 = some (r1, r2, r3)) :
  Calls Tryd.prog 120 #[.pointer (some ⟨g, 0, none⟩)] w fun e w' => e = .returned (.int .i64 r1) ∧ IsS141 w0 w' g s0_0 r2 r3 ∧ Below w0.heap.size w0 w' ∧ KeepBut w w' g none := by
 have HI0 := Aside0.mk hI
 have HK := Aside0.mk (KeepBut.refl w g none)
 have HL := Aside0.mk hB.size
 clear hI
 have HW0 := Aside0.mk hB.size
 have HB := Aside0.mk hB
 clear hB
 have H : ((spec_l01Cur_pick.f s0_0 s0_1 s0_2 3).bind fun bt121001 => ((spec_l01Cur_pick.f s0_0 bt121001.2.1 bt121001.2.2 3).bind fun bt121004 => ((some (([wrap64 (97 + bt121001.1), wrap64 (97 + bt121004.1), 10, 32, 233, 8364, 128578, 127, 128, 2047, 2048, 65535, 65536, 0] : List Int) : List Int)).bind fun y121007 => ((spec_l01Cur_pick.f s0_0 bt121004.2.1 bt121004.2.2 14).bind fun bt121010 => (if 0 ≤ bt121010.1 then (if bt121010.1 < (y121007.length : Int) then (some (rd y121007 bt121010.1, bt121010.2.1, bt121010.2.2)) else (none)) else (none)))))) = some (r1, r2, r3) := h
 clear h
 replace H := Option.bind_eq_some_iff.mp H
 obtain ⟨⟨t121001, t121002, t121003⟩, A20, H⟩ := H
 replace H : ((spec_l01Cur_pick.f s0_0 t121002 t121003 3).bind fun bt121004 => ((some (([wrap64 (97 + t121001), wrap64 (97 + bt121004.1), 10, 32, 233, 8364, 128578, 127, 128, 2047, 2048, 65535, 65536, 0] : List Int) : List Int)).bind fun y121007 => ((spec_l01Cur_pick.f s0_0 bt121004.2.1 bt121004.2.2 14).bind fun bt121010 => (if 0 ≤ bt121010.1 then (if bt121010.1 < (y121007.length : Int) then (some (rd y121007 bt121010.1, bt121010.2.1, bt121010.2.2)) else (none)) else (none))))) = some (r1, r2, r3) := H
 have A2 := Aside0.mk A20
 clear A20
 replace H := Option.bind_eq_some_iff.mp H
 obtain ⟨⟨t121004, t121005, t121006⟩, A30, H⟩ := H
 replace H : ((some (([wrap64 (97 + t121001), wrap64 (97 + t121004), 10, 32, 233, 8364, 128578, 127, 128, 2047, 2048, 65535, 65536, 0] : List Int) : List Int)).bind fun y121007 => ((spec_l01Cur_pick.f s0_0 t121005 t121006 14).bind fun bt121010 => (if 0 ≤ bt121010.1 then (if bt121010.1 < (y121007.length : Int) then (some (rd y121007 bt121010.1, bt121010.2.1, bt121010.2.2)) else (none)) else (none)))) = some (r1, r2, r3) := H
 have A3 := Aside0.mk A30
 clear A30
 obtain ⟨y121007, hy121007⟩ : ∃ y_ : List Int, y_ = (([wrap64 (97 + t121001), wrap64 (97 + t121004), 10, 32, 233, 8364, 128578, 127, 128, 2047, 2048, 65535, 65536, 0] : List Int)) := ⟨_, rfl⟩
 replace H : ((spec_l01Cur_pick.f s0_0 t121005 t121006 14).bind fun bt121010 => (if 0 ≤ bt121010.1 then (if bt121010.1 < (y121007.length : Int) then (some (rd y121007 bt121010.1, bt121010.2.1, bt121010.2.2)) else (none)) else (none))) = some (r1, r2, r3) := repH hy121007 H
 have Ny121007 := Aside0.mk hy121007
 clear hy121007
 replace H := Option.bind_eq_some_iff.mp H
 obtain ⟨⟨t121010, t121011, t121012⟩, A40, H⟩ := H
 replace H : (if 0 ≤ t121010 then (if t121010 < (y121007.length : Int) then (some (rd y121007 t121010, t121011, t121012)) else (none)) else (none)) = some (r1, r2, r3) := H
 have A4 := Aside0.mk A40
 clear A40
 by_cases c5 : 0 ≤ t121010
 ·rw [if_pos c5] at H
  have c5b0 : decide (0 ≤ t121010) = true := decide_eq_true c5
  clear c5
  by_cases c6 : t121010 < (y121007.length : Int)
  ·rw [if_pos c6] at H
   have c6b0 : decide (t121010 < (y121007.length : Int)) = true := decide_eq_true c6
   clear c6
   simp only [Option.some.injEq, Prod.mk.injEq] at H
   obtain ⟨rfl, rfl, rfl⟩ := H
   go_enter Tryd.func120, Tryd.ntmps120
   go_wp2_with (first | ((with_reducible refine gate_callee (f := 64) rfl ?_); refine goesM (some 4) Tryd.func64 #[.pointer (some ⟨g, 0, none⟩), .int .i64 3] ?_; (with_reducible refine (spec_l01Cur_pick.calls g s0_0 s0_1 s0_2 3 t121001 t121002 t121003 w0 _ ?side1 ?side2 A2.out).mono ?_); (case side1 => exact pIIsS141 HI0); (case side2 => exact hbIsS141); rintro e w7 ⟨rfl, hi, hb, hk⟩; refine ⟨_, rfl, ?_⟩; replace HK := Aside0.mk (KeepBut.trans hkk hk (.inl rfl)); replace HB := Aside0.mk (hb); replace HI0 := Aside0.mk (hi); (try clear hb); (try clear hb2); (try clear hk); (try clear hi)) | ((with_reducible refine gate_callee (f := 64) rfl ?_); refine goesM (some 7) Tryd.func64 #[.pointer (some ⟨g, 0, none⟩), .int .i64 3] ?_; (with_reducible refine (spec_l01Cur_pick.calls g s0_0 t121002 t121003 3 t121004 t121005 t121006 w0 _ ?side1 ?side2 A3.out).mono ?_); (case side1 => exact pIIsS141 HI0); (case side2 => exact hbIsS141); rintro e w8 ⟨rfl, hi, hb, hk⟩; refine ⟨_, rfl, ?_⟩; replace HK := Aside0.mk (KeepBut.trans hkk hk (.inl rfl)); replace HB := Aside0.mk (hb); replace HI0 := Aside0.mk (hi); (try clear hb); (try clear hb2); (try clear hk); (try clear hi)) | ((with_reducible refine gate_dst (N := 9) rfl ?_); refine Kd.R_lit (Kd.int .i64) _ 3 ?hg (N := 9) ?hd (xs := ([wrap64 (97 + t121001), wrap64 (97 + t121004), 10, 32, 233, 8364, 128578, 127, 128, 2047, 2048, 65535, 65536, 0] : List Int)) (inner := [.int .i64 (wrap64 (97 + t121001)), .int .i64 (wrap64 (97 + t121004)), .int .i64 10, .int .i64 32, .int .i64 233, .int .i64 8364, .int .i64 128578, .int .i64 127, .int .i64 128, .int .i64 2047, .int .i64 2048, .int .i64 65535, .int .i64 65536, .int .i64 0]) (ok := fun _ => True) (okp := fun _ => True) ?hr ?hp (fun _ hk => hk) trivial (Below.refl _ _) (Nat.le_refl _) (by simp) ?_; (case hd => rfl); (case hg => rfl); (case hr => first | (go_simp; done) | (go_simp; rfl)); (case hp => exact (Reps.one (show Kd.M (Kd.int .i64) _ _ _ (wrap64 (97 + t121001)) [.int .i64 (wrap64 (97 + t121001))] from rfl) (Reps.one (show Kd.M (Kd.int .i64) _ _ _ (wrap64 (97 + t121004)) [.int .i64 (wrap64 (97 + t121004))] from rfl) (Reps.one (show Kd.M (Kd.int .i64) _ _ _ 10 [.int .i64 10] from rfl) (Reps.one (show Kd.M (Kd.int .i64) _ _ _ 32 [.int .i64 32] from rfl) (Reps.one (show Kd.M (Kd.int .i64) _ _ _ 233 [.int .i64 233] from rfl) (Reps.one (show Kd.M (Kd.int .i64) _ _ _ 8364 [.int .i64 8364] from rfl) (Reps.one (show Kd.M (Kd.int .i64) _ _ _ 128578 [.int .i64 128578] from rfl) (Reps.one (show Kd.M (Kd.int .i64) _ _ _ 127 [.int .i64 127] from rfl) (Reps.one (show Kd.M (Kd.int .i64) _ _ _ 128 [.int .i64 128] from rfl) (Reps.one (show Kd.M (Kd.int .i64) _ _ _ 2047 [.int .i64 2047] from rfl) (Reps.one (show Kd.M (Kd.int .i64) _ _ _ 2048 [.int .i64 2048] from rfl) (Reps.one (show Kd.M (Kd.int .i64) _ _ _ 65535 [.int .i64 65535] from rfl) (Reps.one (show Kd.M (Kd.int .i64) _ _ _ 65536 [.int .i64 65536] from rfl) (Reps.one (show Kd.M (Kd.int .i64) _ _ _ 0 [.int .i64 0] from rfl) (Reps.none _ _)))))))))))))))); intro v121008 w9 ho10 hb hg_ hnew_; clear hg_ hnew_; (first | rw [← Ny121007.out] at ho10 | (simp only [Int.reduceToNat] at ho10; rw [← Ny121007.out] at ho10)); have HO121009 := Aside0.mk (Kd.R_lower ho10 (keep_size (w := w) (g := g) (row := none) hkk)); replace HK := Aside0.mk (KeepBut.trans hkk (KeepBut.of_below hb g none) (.inl rfl)); replace HB := Aside0.mk (below_step hbIsS141 hb); replace HI0 := Aside0.mk (IsS141.below (pIIsS141 HI0) hb); clear hb ho10) | ((with_reducible refine gate_callee (f := 64) rfl ?_); refine goesM (some 11) Tryd.func64 #[.pointer (some ⟨g, 0, none⟩), .int .i64 14] ?_; (with_reducible refine (spec_l01Cur_pick.calls g s0_0 t121005 t121006 14 t121010 t121011 t121012 w0 _ ?side1 ?side2 A4.out).mono ?_); (case side1 => exact pIIsS141 HI0); (case side2 => exact hbIsS141); rintro e w11 ⟨rfl, hi, hb, hk⟩; refine ⟨_, rfl, ?_⟩; replace HO121009 := Aside0.mk (Kd.R_mono (Kd.R_keep (IsS141.apart (show IsS141 w0 _ g s0_0 t121005 t121006 from pIIsS141 HI0) (hrnR HO121009) (by decide)) hk (fun _ h => h.2)) (fun _ h => h.1)); replace HK := Aside0.mk (KeepBut.trans hkk hk (.inl rfl)); replace HB := Aside0.mk (hb); replace HI0 := Aside0.mk (hi); (try clear hb); (try clear hb2); (try clear hk); (try clear hi); obtain ⟨Ao12, co12, eo12⟩ := Kd.R_slice HO121009.out; subst eo12; have p121013 : 0 ≤ (t121010 : Int) := odt; have q121013 : t121010 < (y121007.length : Int) := odt; obtain ⟨ad121013, e121013, hx121013_0⟩ := Kd.at_int (Kd.R_reads' HO121009.out).2.2 t121010 p121013 q121013; cases e121013; replace p121013 := eq_true p121013; replace q121013 := eq_true q121013))
   go_ret
   exact ⟨erf, pIIsS141 HI0, hbIsS141, hkk⟩
  ·rw [if_neg c6] at H
   exact absurd H (by simp)
 ·rw [if_neg c5] at H
  exact absurd H (by simp)
def spec_l01Cur_text.l0 : Nat → Int → List Int → Int → List Int → Int → Int → Option (List Int × Int × Int)
 | 0, _, _, _, _, _, _ => none
 | k + 1, x1, x5, x6, x1000, x1001, x1002 => if x6 > 0 then ((spec_l01Cur_rune.f x1000 x1001 x1002).bind fun bt63007 => ((spec_RuneBytes.f k bt63007.1).bind fun t63010 => (if x5.length + t63010.length < 140737488355328 then (spec_l01Cur_text.l0 k x1 (x5 ++ t63010) (wrap64 (x6 - 1)) x1000 bt63007.2.1 bt63007.2.2) else (none)))) else (if (x5.length : Int) > x1 then (if 0 ≤ (x5.length : Int) then (some ((x5.take (0 : Int).toNat), x1001, x1002)) else (none)) else (some (x5, x1001, x1002)))
def spec_l01Cur_text.f (k : Nat) (s0_0 : List Int) (s0_1 : Int) (s0_2 : Int) (a1 : Int) : Option (List Int × Int × Int) := (spec_l01Cur_size.f s0_0 s0_1 s0_2 a1).bind fun bt63004 => (spec_l01Cur_text.l0 k a1 (([] : List Int)) bt63004.1 s0_0 bt63004.2.1 bt63004.2.2)
theorem spec_l01Cur_text.mono_l : ∀ k, (∀ y0 y1 y2 y3 y4 y5, LeO (spec_l01Cur_text.l0 k y0 y1 y2 y3 y4 y5) (spec_l01Cur_text.l0 (k + 1) y0 y1 y2 y3 y4 y5))
 | 0 => fun _ _ _ _ _ _ r h => by simp [spec_l01Cur_text.l0] at h
 | k + 1 => by
  have ih0 := spec_l01Cur_text.mono_l k
  ·intro y0 y1 y2 y3 y4 y5
   unfold spec_l01Cur_text.l0
   repeat' first
   | (with_reducible exact ih0 _ _ _ _ _ _)
   | (with_reducible exact spec_RuneBytes.mono _ _)
   | (with_reducible exact LeO.refl _)
   | (with_reducible exact LeO.none _)
   | (with_reducible refine LeO.ite ?_ ?_)
   | (with_reducible refine LeO.bind ?_ (fun _ => ?_))
   | exact ih0 _ _ _ _ _ _
   | exact spec_RuneBytes.mono _ _
   | exact LeO.none _
   | refine LeO.ite ?_ ?_
   | refine LeO.bind ?_ (fun _ => ?_)
theorem spec_l01Cur_text.mono : ∀ a0 a1 a2 a3 k, LeO (spec_l01Cur_text.f k a0 a1 a2 a3) (spec_l01Cur_text.f (k + 1) a0 a1 a2 a3) := by
 intro a0 a1 a2 a3 k
 have ih0 := spec_l01Cur_text.mono_l k
 unfold spec_l01Cur_text.f
 repeat' first
   | (with_reducible exact ih0 _ _ _ _ _ _)
   | (with_reducible exact spec_RuneBytes.mono _ _)
   | (with_reducible exact LeO.refl _)
   | (with_reducible exact LeO.none _)
   | (with_reducible refine LeO.ite ?_ ?_)
   | (with_reducible refine LeO.bind ?_ (fun _ => ?_))
   | exact ih0 _ _ _ _ _ _
   | exact spec_RuneBytes.mono _ _
   | exact LeO.none _
   | refine LeO.ite ?_ ?_
   | refine LeO.bind ?_ (fun _ => ?_)
set_option maxHeartbeats 8000000 in
set_option maxRecDepth 100000 in
theorem spec_l01Cur_text.calls (k : Nat) (g : Nat) (s0_0 : List Int) (s0_1 : Int) (s0_2 : Int) (a1 : Int) (r1 : List Int) (r2 : Int) (r3 : Int) (w0 w : World) (hI : IsS141 w0 w g s0_0 s0_1 s0_2) (hB : Below w0.heap.size w0 w) (h : spec_l01Cur_text.f k s0_0 s0_1 s0_2 a1 = some (r1, r2, r3)) :
  Calls Tryd.prog 62 #[.pointer (some ⟨g, 0, none⟩), .int .i64 a1] w fun e w' => ∃ v0_ : Value, e = .returned (v0_) ∧ Kd.R (Kd.int .u8) 5 w' w.heap.size (fun _ => True) v0_ r1 ∧ IsS141 w0 w' g s0_0 r2 r3 ∧ Below w0.heap.size w0 w' ∧ KeepBut w w' g none := by
 have HI0 := Aside0.mk hI
 have HK := Aside0.mk (KeepBut.refl w g none)
 have HL := Aside0.mk hB.size
 clear hI
 have HW0 := Aside0.mk hB.size
 have HB := Aside0.mk hB
 clear hB
 have H : ((spec_l01Cur_size.f s0_0 s0_1 s0_2 a1).bind fun bt63004 => (spec_l01Cur_text.l0 k a1 (([] : List Int)) bt63004.1 s0_0 bt63004.2.1 bt63004.2.2)) = some (r1, r2, r3) := h
 clear h
 obtain ⟨y63001, hy63001⟩ : ∃ y_ : List Int, y_ = (([] : List Int)) := ⟨_, rfl⟩
 replace H : ((spec_l01Cur_size.f s0_0 s0_1 s0_2 a1).bind fun bt63004 => (spec_l01Cur_text.l0 k a1 y63001 bt63004.1 s0_0 bt63004.2.1 bt63004.2.2)) = some (r1, r2, r3) := repH hy63001 H
 have Ny63001 := Aside0.mk hy63001
 clear hy63001
 replace H := Option.bind_eq_some_iff.mp H
 obtain ⟨⟨t63004, t63005, t63006⟩, A30, H⟩ := H
 replace H : (spec_l01Cur_text.l0 k a1 y63001 t63004 s0_0 t63005 t63006) = some (r1, r2, r3) := H
 have A3 := Aside0.mk A30
 clear A30
 have H' := Aside0.mk H
 clear H
 go_enter Tryd.func62, Tryd.ntmps62
 go_wp2_with (first | ((with_reducible refine gate_dst (N := 7) rfl ?_); refine Kd.R_lit (Kd.int .u8) _ 5 ?hg (N := 7) ?hd (xs := ([] : List Int)) (inner := []) (ok := fun _ => True) (okp := fun _ => True) ?hr ?hp (fun _ hk => hk) trivial (Below.refl _ _) (Nat.le_refl _) (by simp) ?_; (case hd => rfl); (case hg => rfl); (case hr => first | (go_simp; done) | (go_simp; rfl)); (case hp => exact (Reps.none _ _)); intro v63002 w4 ho5 hb hg_ hnew_; clear hg_ hnew_; (first | rw [← Ny63001.out] at ho5 | (simp only [Int.reduceToNat] at ho5; rw [← Ny63001.out] at ho5)); have HO63003 := Aside0.mk (Kd.R_lower ho5 (keep_size (w := w) (g := g) (row := none) hkk)); replace HK := Aside0.mk (KeepBut.trans hkk (KeepBut.of_below hb g none) (.inl rfl)); replace HB := Aside0.mk (below_step hbIsS141 hb); replace HI0 := Aside0.mk (IsS141.below (pIIsS141 HI0) hb); clear hb ho5) | ((with_reducible refine gate_callee (f := 118) rfl ?_); refine goesM (some 10) Tryd.func118 #[.pointer (some ⟨g, 0, none⟩), .int .i64 a1] ?_; (with_reducible refine (spec_l01Cur_size.calls g s0_0 s0_1 s0_2 a1 t63004 t63005 t63006 w0 _ ?side1 ?side2 A3.out).mono ?_); (case side1 => exact pIIsS141 HI0); (case side2 => exact hbIsS141); rintro e w6 ⟨rfl, hi, hb, hk⟩; refine ⟨_, rfl, ?_⟩; replace HO63003 := Aside0.mk (Kd.R_mono (Kd.R_keep (IsS141.apart (show IsS141 w0 _ g s0_0 s0_1 s0_2 from pIIsS141 HI0) (hrnR HO63003) (by decide)) hk (fun _ h => h.2)) (fun _ h => h.1)); replace HK := Aside0.mk (KeepBut.trans hkk hk (.inl rfl)); replace HB := Aside0.mk (hb); replace HI0 := Aside0.mk (hi); (try clear hb); (try clear hb2); (try clear hk); (try clear hi)))
 go_loopg [5, 6] k (fun kq v5 v6 w' => ∃ (x5_1 : List Int) (x6_1 : Int) (x1001_1 : Int) (x1002_1 : Int), v6 = .int .i64 x6_1 ∧ Aside0 (spec_l01Cur_text.l0 kq a1 x5_1 x6_1 s0_0 x1001_1 x1002_1 = some (r1, r2, r3)) ∧ Aside0 (kq ≤ k) ∧ Aside0 (Kd.R (Kd.int .u8) 5 w' w.heap.size (fun _ => True) v5 x5_1) ∧ Aside0 (IsS141 w0 w' g s0_0 x1001_1 x1002_1) ∧ Aside0 (KeepBut w w' g none) ∧ Aside0 (Below w0.heap.size w0 w'))
 case atStart => exact ⟨(y63001), (t63004), (t63005), (t63006), rfs, H', ⟨Nat.le_refl _⟩, ⟨(hrnR HO63003)⟩, ⟨pIIsS141 HI0⟩, ⟨hkk⟩, ⟨hbIsS141⟩⟩
 case round =>
  clear H'
  try clear c1
  try clear p2
  try clear c6
  obtain ⟨x5_1, x6_1, x1001_1, x1002_1, rfl, HA, HK1, HO_5, HI0, HK, HB⟩ := hrel
  cases gk with
  | zero => exact absurd HA.out (by simp [spec_l01Cur_text.l0])
  | succ k1 =>
   have H := HA.out
   clear HA
   simp only [spec_l01Cur_text.l0] at H
   by_cases c7 : x6_1 > 0
   ·rw [if_pos c7] at H
    have c7b0 : decide (0 < x6_1) = true := decide_eq_true c7
    clear c7
    replace H := Option.bind_eq_some_iff.mp H
    obtain ⟨⟨t63007, t63008, t63009⟩, A80, H⟩ := H
    replace H : ((spec_RuneBytes.f k1 t63007).bind fun t63010 => (if x5_1.length + t63010.length < 140737488355328 then (spec_l01Cur_text.l0 k1 a1 (x5_1 ++ t63010) (wrap64 (x6_1 - 1)) s0_0 t63008 t63009) else (none))) = some (r1, r2, r3) := H
    have A8 := Aside0.mk A80
    clear A80
    replace H := Option.bind_eq_some_iff.mp H
    obtain ⟨t63010, A90, H⟩ := H
    replace H : (if x5_1.length + t63010.length < 140737488355328 then (spec_l01Cur_text.l0 k1 a1 (x5_1 ++ t63010) (wrap64 (x6_1 - 1)) s0_0 t63008 t63009) else (none)) = some (r1, r2, r3) := H
    have A9 := Aside0.mk A90
    clear A90
    by_cases c10 : x5_1.length + t63010.length < 140737488355328
    ·rw [if_pos c10] at H
     have LMc10 := Aside0.mk c10
     clear c10
     obtain ⟨y63013, hy63013⟩ : ∃ y_ : List Int, y_ = (x5_1 ++ t63010) := ⟨_, rfl⟩
     replace H : (spec_l01Cur_text.l0 k1 a1 y63013 (wrap64 (x6_1 - 1)) s0_0 t63008 t63009) = some (r1, r2, r3) := repH hy63013 H
     have Ny63013 := Aside0.mk hy63013
     clear hy63013
     have H' := Aside0.mk H
     clear H
     go_wp2_with (first | ((with_reducible refine gate_callee (f := 120) rfl ?_); refine goesM (some 17) Tryd.func120 #[.pointer (some ⟨g, 0, none⟩)] ?_; (with_reducible refine (spec_l01Cur_rune.calls g s0_0 x1001_1 x1002_1 t63007 t63008 t63009 w0 _ ?side1 ?side2 A8.out).mono ?_); (case side1 => exact pIIsS141 HI0); (case side2 => exact hbIsS141); rintro e w11 ⟨rfl, hi, hb, hk⟩; refine ⟨_, rfl, ?_⟩; replace HO_5 := Aside0.mk (Kd.R_mono (Kd.R_keep (IsS141.apart (show IsS141 w0 _ g s0_0 x1001_1 x1002_1 from pIIsS141 HI0) (hrnR HO_5) (by decide)) hk (fun _ h => h.2)) (fun _ h => h.1)); replace HK := Aside0.mk (KeepBut.trans hkk hk (.inl rfl)); replace HB := Aside0.mk (hb); replace HI0 := Aside0.mk (hi); (try clear hb); (try clear hb2); (try clear hk); (try clear hi)) | ((with_reducible refine gate_callee (f := 119) rfl ?_); refine goesM (some 18) Tryd.func119 #[.int .i64 t63007] ?_; (with_reducible refine (spec_RuneBytes.calls k1 t63007 t63010 _ A9.out).mono ?_); rintro e w12 ⟨v63011, rfl, ho0, hb⟩; refine ⟨_, rfl, ?_⟩; have HO63012 := Aside0.mk (Kd.R_lower (Kd.R_new' ho0 (Kd.R_lt (hrnR HO_5))) (keep_size (w := w) (g := g) (row := none) hkk)); replace HO_5 := Aside0.mk (Kd.R_elder' (hrnR HO_5) (Kd.R_base ho0) hb); replace HK := Aside0.mk (KeepBut.trans hkk (KeepBut.of_below hb g none) (.inl rfl)); replace HB := Aside0.mk (below_step hbIsS141 hb); replace HI0 := Aside0.mk (IsS141.below (pIIsS141 HI0) hb); (try clear hb); (try clear hb2); (try clear hk); (try clear hi); (try clear ho0); obtain ⟨Ao14, co14, eo14⟩ := Kd.R_slice HO63012.out; subst eo14) | ((with_reducible refine gate_builtin (b := .append) (xs := #[.tmp 15, .tmp 18]) rfl ?_); at_builtin; refine Kd.R_append_rows (Kd.int .u8) w.heap.size rfl (.tmp 15) (.tmp 18) 22 5 (.int .u8 0) 1 rfl Tryd.underlying22 info5 rfl (by decide) (by omega) u5 x5_1 t63010 _ _ _ (fun k_ => some k_ ≠ (.slice Ao14 t63010.length co14 : Value).ownBlock) (fun _ => False) rfl rfl ?aO ?aR (fun _ _ h => h) (fun _ h => h.elim) ?aF (Below.refl _ _) ?aS ?aL ?_; (case aR => repeat (first | exact (Kd.R_reads' HO63012.out).2.2 | (with_reducible refine Kd.C_alloc ?_ _) | (with_reducible refine Kd.C_drewN ?_ _) | (with_reducible refine Kd.C_drew ?_))); (case aF => exact (fun k_ hk => Kd.fresh' (Kd.R_lt (hrnR HO63012)) k_ hk)); (case aO => exact (by (with_reducible repeat (first | apply Kd.R_alloc | apply Kd.R_drewN | apply Kd.R_drew)); exact Kd.R_mono HO_5.out (fun _ hk => hk.2))); (case aS => exact (keep_size (w := w) (g := g) (row := none) hkk)); (case aL => have := LMc10.out; omega); intro v63014 w13 ho hb hg hat; rw [← Ny63013.out] at ho; have HO63015 := Aside0.mk (ho); replace HO63012 := Aside0.mk (Kd.R_after (ok := (fun _ => True)) (hrnR HO63012) hg hat); replace HB := Aside0.mk (below_weaken hbIsS141 HL.out hb); replace HI0 := Aside0.mk (IsS141.grown (pIIsS141 HI0) hg (IsS141.own_ne HI0.out HO_5.out (by decide))); replace HK := Aside0.mk (KeepBut.trans hkk (KeepBut.of_grown hg g) (Kd.R_base2 HO_5.out)); clear HO_5; clear ho hb hg hat))
     go_roundg k1
     case measure => have := HK1.out; omega
     case rel => exact ⟨(y63013), (wrap64 (x6_1 - 1)), (t63008), (t63009), rfs, H', ⟨by have := HK1.out; omega⟩, ⟨by (with_reducible repeat (first | apply Kd.R_alloc | apply Kd.R_drewN | apply Kd.R_drew)); exact Kd.R_mono HO63015.out (fun _ hk => trivial)⟩, ⟨pIIsS141 HI0⟩, ⟨hkk⟩, ⟨hbIsS141⟩⟩
    ·rw [if_neg c10] at H
     exact absurd H (by simp)
   ·rw [if_neg c7] at H
    have c7b0 : decide (0 < x6_1) = false := decide_eq_false c7
    clear c7
    by_cases c15 : (x5_1.length : Int) > a1
    ·rw [if_pos c15] at H
     have c15b0 : decide (a1 < (x5_1.length : Int)) = true := decide_eq_true c15
     clear c15
     by_cases c16 : 0 ≤ (x5_1.length : Int)
     ·rw [if_pos c16] at H
      have c16b0 := eq_true c16
      have c16b1 : decide (0 ≤ (x5_1.length : Int)) = true := decide_eq_true c16
      clear c16
      obtain ⟨y63016, hy63016⟩ : ∃ y_ : List Int, y_ = (x5_1.take (0 : Int).toNat) := ⟨_, rfl⟩
      replace H : (some (y63016, x1001_1, x1002_1)) = some (r1, r2, r3) := repH hy63016 H
      have Ny63016 := Aside0.mk hy63016
      clear hy63016
      simp only [Option.some.injEq, Prod.mk.injEq] at H
      obtain ⟨rfl, rfl, rfl⟩ := H
      obtain ⟨Ao17, co17, eo17⟩ := Kd.R_slice HO_5.out
      subst eo17
      have q18 : (0 : Int) ≤ ((x5_1.length : Int) : Int) := odt
      obtain ⟨i018, hi018, _, hsz18, _⟩ := info_parts info5
      have hcut18 := cut_to (P := Tryd.prog) 22 5 .i64 Tryd.underlying22 hi018 Ao17 x5_1.length co17 0 (by omega) q18 (Kd.R_reads' HO_5.out).2.1
      have hr18 := Kd.R_take (m := (0 : Int).toNat) HO_5.out (by omega)
      have hy18 : y63016.length = (0 : Int).toNat := (by rw [Ny63016.out, List.length_take]; omega)
      rw [← Ny63016.out] at hr18
      rw [← hy18] at hr18 hcut18
      clear hy18 hi018 hsz18 HO_5
      have HO63018 := Aside0.mk hr18
      clear hr18
      replace q18 := eq_true q18
      go_wp2
      go_ret
      exact ⟨_, erf, (hrnR HO63018), pIIsS141 HI0, hbIsS141, hkk⟩
     ·rw [if_neg c16] at H
      exact absurd H (by simp)
    ·rw [if_neg c15] at H
     have c15b0 : decide (a1 < (x5_1.length : Int)) = false := decide_eq_false c15
     clear c15
     simp only [Option.some.injEq, Prod.mk.injEq] at H
     obtain ⟨rfl, rfl, rfl⟩ := H
     obtain ⟨Ao19, co19, eo19⟩ := Kd.R_slice HO_5.out
     subst eo19
     go_wp2
     go_ret
     exact ⟨_, erf, (hrnR HO_5), pIIsS141 HI0, hbIsS141, hkk⟩
mutual
def spec_l01Cur_edit.j1 : Nat → List Int → Int → Int → Int → Int → Option (Int × Int × List Int × Int × Int)
 | 0, _, _, _, _, _ => none
 | k + 1, x1000, x1001, x1002, x64012000, x64012001 => (spec_l01Cur_once.f x1000 x1001 x1002 3).bind fun bt64021 => (if bt64021.1 = true then (some (x64012000, x64012001, ([] : List Int), bt64021.2.1, bt64021.2.2)) else ((spec_l01Cur_text.f k x1000 bt64021.2.1 bt64021.2.2 6).bind fun bt64024 => (some (x64012000, x64012001, bt64024.1, bt64024.2.1, bt64024.2.2))))
def spec_l01Cur_edit.j0 : Nat → Int → Int → Bool → List Int → Int → Int → List (S125) → Int → Int → Option (Int × Int × List Int × Int × Int)
 | 0, _, _, _, _, _, _, _, _, _ => none
 | k + 1, x7, x8, x35, x1000, x1001, x1002, x64007000, x64012000, x64012001 => if x35 = true then ((spec_l01Cur_cutOf.f k x1000 x1001 x1002 x64007000).bind fun bt64018 => (if (wrap64 (bt64018.1 - x7)) < 0 then (spec_l01Cur_edit.j1 k x1000 bt64018.2.1 bt64018.2.2 x64012000 (wrap64 (x8 - x7))) else (spec_l01Cur_edit.j1 k x1000 bt64018.2.1 bt64018.2.2 x64012000 (wrap64 (bt64018.1 - x7))))) else (spec_l01Cur_edit.j1 k x1000 x1001 x1002 x64012000 x64012001)
end
def spec_l01Cur_edit.f (k : Nat) (s0_0 : List Int) (s0_1 : Int) (s0_2 : Int) (l1 : List Int) : Option (Int × Int × List Int × Int × Int) := (spec_RopeOf.f k l1).bind fun bt64002 => ((spec_l01Cur_span.f k s0_0 s0_1 s0_2 bt64002.1).bind fun bt64007 => ((spec_l01Cur_once.f s0_0 bt64007.2.2.1 bt64007.2.2.2 2).bind fun bt64012 => (if bt64012.1 = true then (spec_l01Cur_edit.j1 k s0_0 bt64012.2.1 bt64012.2.2 bt64007.1 0) else (if (wrap64 (bt64007.2.1 - bt64007.1)) > 6 then ((spec_l01Cur_once.f s0_0 bt64012.2.1 bt64012.2.2 2).bind fun bt64015 => (spec_l01Cur_edit.j0 k bt64007.1 bt64007.2.1 bt64015.1 s0_0 bt64015.2.1 bt64015.2.2 bt64002.1 bt64007.1 (wrap64 (bt64007.2.1 - bt64007.1)))) else (spec_l01Cur_edit.j0 k bt64007.1 bt64007.2.1 false s0_0 bt64012.2.1 bt64012.2.2 bt64002.1 bt64007.1 (wrap64 (bt64007.2.1 - bt64007.1)))))))
theorem spec_l01Cur_edit.mono_l : ∀ k, (∀ y0 y1 y2 y3 y4, LeO (spec_l01Cur_edit.j1 k y0 y1 y2 y3 y4) (spec_l01Cur_edit.j1 (k + 1) y0 y1 y2 y3 y4)) ∧ (∀ y0 y1 y2 y3 y4 y5 y6 y7 y8, LeO (spec_l01Cur_edit.j0 k y0 y1 y2 y3 y4 y5 y6 y7 y8) (spec_l01Cur_edit.j0 (k + 1) y0 y1 y2 y3 y4 y5 y6 y7 y8))
 | 0 => ⟨fun _ _ _ _ _ r h => by simp [spec_l01Cur_edit.j1] at h, fun _ _ _ _ _ _ _ _ _ r h => by simp [spec_l01Cur_edit.j0] at h⟩
 | k + 1 => by
  obtain ⟨ih0, ih1⟩ := spec_l01Cur_edit.mono_l k
  refine ⟨fun y0 y1 y2 y3 y4 => ?_, fun y0 y1 y2 y3 y4 y5 y6 y7 y8 => ?_⟩
  all_goals first | unfold spec_l01Cur_edit.j1 | unfold spec_l01Cur_edit.j0
  all_goals repeat' first
  | (with_reducible exact ih0 _ _ _ _ _)
  | (with_reducible exact ih1 _ _ _ _ _ _ _ _ _)
  | (with_reducible exact spec_RopeOf.mono _ _)
  | (with_reducible exact spec_l01Cur_cutOf.mono _ _ _ _ _)
  | (with_reducible exact spec_l01Cur_span.mono _ _ _ _ _)
  | (with_reducible exact spec_l01Cur_text.mono _ _ _ _ _)
  | (with_reducible exact LeO.refl _)
  | (with_reducible exact LeO.none _)
  | (with_reducible refine LeO.ite ?_ ?_)
  | (with_reducible refine LeO.bind ?_ (fun _ => ?_))
  | exact ih0 _ _ _ _ _
  | exact ih1 _ _ _ _ _ _ _ _ _
  | exact spec_RopeOf.mono _ _
  | exact spec_l01Cur_cutOf.mono _ _ _ _ _
  | exact spec_l01Cur_span.mono _ _ _ _ _
  | exact spec_l01Cur_text.mono _ _ _ _ _
  | exact LeO.none _
  | refine LeO.ite ?_ ?_
  | refine LeO.bind ?_ (fun _ => ?_)
theorem spec_l01Cur_edit.mono : ∀ a0 a1 a2 a3 k, LeO (spec_l01Cur_edit.f k a0 a1 a2 a3) (spec_l01Cur_edit.f (k + 1) a0 a1 a2 a3) := by
 intro a0 a1 a2 a3 k
 obtain ⟨ih0, ih1⟩ := spec_l01Cur_edit.mono_l k
 unfold spec_l01Cur_edit.f
 repeat' first
   | (with_reducible exact ih0 _ _ _ _ _)
   | (with_reducible exact ih1 _ _ _ _ _ _ _ _ _)
   | (with_reducible exact spec_RopeOf.mono _ _)
   | (with_reducible exact spec_l01Cur_cutOf.mono _ _ _ _ _)
   | (with_reducible exact spec_l01Cur_span.mono _ _ _ _ _)
   | (with_reducible exact spec_l01Cur_text.mono _ _ _ _ _)
   | (with_reducible exact LeO.refl _)
   | (with_reducible exact LeO.none _)
   | (with_reducible refine LeO.ite ?_ ?_)
   | (with_reducible refine LeO.bind ?_ (fun _ => ?_))
   | exact ih0 _ _ _ _ _
   | exact ih1 _ _ _ _ _ _ _ _ _
   | exact spec_RopeOf.mono _ _
   | exact spec_l01Cur_cutOf.mono _ _ _ _ _
   | exact spec_l01Cur_span.mono _ _ _ _ _
   | exact spec_l01Cur_text.mono _ _ _ _ _
   | exact LeO.none _
   | refine LeO.ite ?_ ?_
   | refine LeO.bind ?_ (fun _ => ?_)
set_option maxHeartbeats 8000000 in
set_option maxRecDepth 100000 in
theorem spec_l01Cur_edit.calls (k : Nat) (g : Nat) (s0_0 : List Int) (s0_1 : Int) (s0_2 : Int) (A1 : Option Addr) (c1 : Nat) (l1 : List Int) (r1 : Int) (r2 : Int) (r3 : List Int) (r4 : Int) (r5 : Int) (w0 w : World) (hI : IsS141 w0 w g s0_0 s0_1 s0_2) (hB : Below w0.heap.size w0 w) (hr1 : Kd.C (Kd.int .u8) w A1 l1.length l1) (hc1 : l1.length ≤ c1) (hf1 : ∀ ad, A1 = some ad → 0 < l1.length → ad.block ≠ g) (h : spec_l01Cur_edit.f k s0_0 s0_1 s0_2 l1 = some (r1, r2, r3, r4, r5)) :
  Calls Tryd.prog 63 #[.pointer (some ⟨g, 0, none⟩), .slice A1 l1.length c1] w fun e w' => ∃ v2_ : Value, e = .returned (.agg #[.int .i64 r1, .int .i64 r2, v2_]) ∧ Kd.R (Kd.int .u8) 5 w' w.heap.size (fun _ => True) v2_ r3 ∧ IsS141 w0 w' g s0_0 r4 r5 ∧ Below w0.heap.size w0 w' ∧ KeepBut w w' g none := by
 have hu25 := Tryd.underlying25
 have hu71 := Tryd.underlying71
 have HR1 := Aside0.mk hr1
 have HC1 := Aside0.mk hc1
 clear hr1 hc1
 have HI0 := Aside0.mk hI
 have HK := Aside0.mk (KeepBut.refl w g none)
 have HL := Aside0.mk hB.size
 clear hI
 have HW0 := Aside0.mk hB.size
 have HB := Aside0.mk hB
 clear hB
 have H : ((spec_RopeOf.f k l1).bind fun bt64002 => ((spec_l01Cur_span.f k s0_0 s0_1 s0_2 bt64002.1).bind fun bt64007 => ((spec_l01Cur_once.f s0_0 bt64007.2.2.1 bt64007.2.2.2 2).bind fun bt64012 => (if bt64012.1 = true then (spec_l01Cur_edit.j1 k s0_0 bt64012.2.1 bt64012.2.2 bt64007.1 0) else (if (wrap64 (bt64007.2.1 - bt64007.1)) > 6 then ((spec_l01Cur_once.f s0_0 bt64012.2.1 bt64012.2.2 2).bind fun bt64015 => (spec_l01Cur_edit.j0 k bt64007.1 bt64007.2.1 bt64015.1 s0_0 bt64015.2.1 bt64015.2.2 bt64002.1 bt64007.1 (wrap64 (bt64007.2.1 - bt64007.1)))) else (spec_l01Cur_edit.j0 k bt64007.1 bt64007.2.1 false s0_0 bt64012.2.1 bt64012.2.2 bt64002.1 bt64007.1 (wrap64 (bt64007.2.1 - bt64007.1)))))))) = some (r1, r2, r3, r4, r5) := h
 clear h
 replace H := Option.bind_eq_some_iff.mp H
 obtain ⟨⟨t64002, t64005⟩, A30, H⟩ := H
 replace H : ((spec_l01Cur_span.f k s0_0 s0_1 s0_2 t64002).bind fun bt64007 => ((spec_l01Cur_once.f s0_0 bt64007.2.2.1 bt64007.2.2.2 2).bind fun bt64012 => (if bt64012.1 = true then (spec_l01Cur_edit.j1 k s0_0 bt64012.2.1 bt64012.2.2 bt64007.1 0) else (if (wrap64 (bt64007.2.1 - bt64007.1)) > 6 then ((spec_l01Cur_once.f s0_0 bt64012.2.1 bt64012.2.2 2).bind fun bt64015 => (spec_l01Cur_edit.j0 k bt64007.1 bt64007.2.1 bt64015.1 s0_0 bt64015.2.1 bt64015.2.2 t64002 bt64007.1 (wrap64 (bt64007.2.1 - bt64007.1)))) else (spec_l01Cur_edit.j0 k bt64007.1 bt64007.2.1 false s0_0 bt64012.2.1 bt64012.2.2 t64002 bt64007.1 (wrap64 (bt64007.2.1 - bt64007.1))))))) = some (r1, r2, r3, r4, r5) := H
 have A3 := Aside0.mk A30
 clear A30
 replace H := Option.bind_eq_some_iff.mp H
 obtain ⟨⟨t64007, t64008, t64009, t64010⟩, A40, H⟩ := H
 replace H : ((spec_l01Cur_once.f s0_0 t64009 t64010 2).bind fun bt64012 => (if bt64012.1 = true then (spec_l01Cur_edit.j1 k s0_0 bt64012.2.1 bt64012.2.2 t64007 0) else (if (wrap64 (t64008 - t64007)) > 6 then ((spec_l01Cur_once.f s0_0 bt64012.2.1 bt64012.2.2 2).bind fun bt64015 => (spec_l01Cur_edit.j0 k t64007 t64008 bt64015.1 s0_0 bt64015.2.1 bt64015.2.2 t64002 t64007 (wrap64 (t64008 - t64007)))) else (spec_l01Cur_edit.j0 k t64007 t64008 false s0_0 bt64012.2.1 bt64012.2.2 t64002 t64007 (wrap64 (t64008 - t64007)))))) = some (r1, r2, r3, r4, r5) := H
 have A4 := Aside0.mk A40
 clear A40
 replace H := Option.bind_eq_some_iff.mp H
 obtain ⟨⟨t64012, t64013, t64014⟩, A50, H⟩ := H
 replace H : (if t64012 = true then (spec_l01Cur_edit.j1 k s0_0 t64013 t64014 t64007 0) else (if (wrap64 (t64008 - t64007)) > 6 then ((spec_l01Cur_once.f s0_0 t64013 t64014 2).bind fun bt64015 => (spec_l01Cur_edit.j0 k t64007 t64008 bt64015.1 s0_0 bt64015.2.1 bt64015.2.2 t64002 t64007 (wrap64 (t64008 - t64007)))) else (spec_l01Cur_edit.j0 k t64007 t64008 false s0_0 t64013 t64014 t64002 t64007 (wrap64 (t64008 - t64007))))) = some (r1, r2, r3, r4, r5) := H
 have A5 := Aside0.mk A50
 clear A50
 have HC6 := Aside0.mk H
 clear H
 go_enter Tryd.func63, Tryd.ntmps63
 go_upto_if 27 with (first | ((with_reducible refine gate_dst (N := 4) rfl ?_); refine boxE 4 #[.int .i64 0, .int .i64 0, .slice none 0 0] 25 ?_; intro gb64001 hg w7 BK64001 hb; have GW64001 := Aside0.mk ((by rw [hg]; exact (keep_size (w := w) (g := g) (row := none) hkk) : w.heap.size ≤ gb64001)); have GE64001 := Aside0.mk ((Nat.le_trans HW0.out (by rw [hg]; exact (keep_size (w := w) (g := g) (row := none) hkk) : w.heap.size ≤ gb64001) : w0.heap.size ≤ gb64001)); have NB0_64001 := Aside0.mk ((by rw [hg]; exact Nat.ne_of_lt (IsS141.lt (show IsS141 w0 _ g s0_0 s0_1 s0_2 from pIIsS141 HI0)) : g ≠ gb64001)); have NB64001_0 := Aside0.mk ((by rw [hg]; exact Nat.ne_of_gt (IsS141.lt (show IsS141 w0 _ g s0_0 s0_1 s0_2 from pIIsS141 HI0)) : gb64001 ≠ g)); replace HK := Aside0.mk (KeepBut.trans hkk (KeepBut.of_below hb g none) (.inl rfl)); replace HB := Aside0.mk (below_step hbIsS141 hb); replace HI0 := Aside0.mk (IsS141.below (pIIsS141 HI0) hb); clear hb hg) | ((with_reducible refine gate_callee (f := 121) rfl ?_); refine goesM (some 12) Tryd.func121 #[.slice A1 l1.length c1] ?_; (with_reducible refine (spec_RopeOf.calls k _ _ l1 t64002 t64005 _ ?side1 ?side2 A3.out).mono ?_); (case side1 => exact Kd.C_keep 0 HR1.out (by repeat (first | (with_reducible first | exact HK.out | apply KeepBut.set_ | apply keep_drewN | apply keep_drew | apply keep_alloc | refine keep_far ?_ GW64001.out _) | exact HK.out)) hf1); (case side2 => exact HC1.out); rintro e w8 ⟨v64003, rfl, ho0, hb⟩; refine ⟨_, rfl, ?_⟩; have HO64004 := Aside0.mk (Kd.S_lower ho0 (keep_size (w := w) (g := g) (row := none) (by repeat (first | (with_reducible first | exact HK.out | apply KeepBut.set_ | apply keep_drewN | apply keep_drew | apply keep_alloc | refine keep_far ?_ GW64001.out _) | exact HK.out)))); replace BK64001 := Aside0.mk (bkb BK64001 hb); replace HK := Aside0.mk (KeepBut.trans (by repeat (first | (with_reducible first | exact HK.out | apply KeepBut.set_ | apply keep_drewN | apply keep_drew | apply keep_alloc | refine keep_far ?_ GW64001.out _) | exact HK.out)) (KeepBut.of_below hb g none) (.inl rfl)); replace HB := Aside0.mk (below_step hbIsS141 hb); replace HI0 := Aside0.mk (IsS141.below (pIIsS141 HI0) hb); (try clear hb); (try clear hb2); (try clear hk); (try clear hi); (try clear ho0)) | ((with_reducible refine gate_dst (N := 5) rfl ?_); refine boxE 5 #[.slice none 0 0] 71 ?_; intro gb64006 hg w9 BK64006 hb; have GW64006 := Aside0.mk ((by rw [hg]; exact (keep_size (w := w) (g := g) (row := none) (by repeat (first | (with_reducible first | exact HK.out | apply KeepBut.set_ | apply keep_drewN | apply keep_drew | apply keep_alloc | refine keep_far ?_ GW64001.out _) | exact HK.out))) : w.heap.size ≤ gb64006)); have GE64006 := Aside0.mk ((Nat.le_trans HW0.out (by rw [hg]; exact (keep_size (w := w) (g := g) (row := none) (by repeat (first | (with_reducible first | exact HK.out | apply KeepBut.set_ | apply keep_drewN | apply keep_drew | apply keep_alloc | refine keep_far ?_ GW64001.out _) | exact HK.out))) : w.heap.size ≤ gb64006) : w0.heap.size ≤ gb64006)); have NB64001_64006 := Aside0.mk (nbl BK64001 hg); have NB64006_64001 := Aside0.mk (nbg BK64001 hg); have NB0_64006 := Aside0.mk ((by rw [hg]; exact Nat.ne_of_lt (IsS141.lt (show IsS141 w0 _ g s0_0 s0_1 s0_2 from pIIsS141 HI0)) : g ≠ gb64006)); have NB64006_0 := Aside0.mk ((by rw [hg]; exact Nat.ne_of_gt (IsS141.lt (show IsS141 w0 _ g s0_0 s0_1 s0_2 from pIIsS141 HI0)) : gb64006 ≠ g)); replace HO64004 := Aside0.mk (Kd.S_below (hrnS HO64004) hb); replace BK64001 := Aside0.mk (bkb BK64001 hb); replace HK := Aside0.mk (KeepBut.trans (by repeat (first | (with_reducible first | exact HK.out | apply KeepBut.set_ | apply keep_drewN | apply keep_drew | apply keep_alloc | refine keep_far ?_ GW64001.out _) | exact HK.out)) (KeepBut.of_below hb g none) (.inl rfl)); replace HB := Aside0.mk (below_step hbIsS141 hb); replace HI0 := Aside0.mk (IsS141.below (pIIsS141 HI0) hb); clear hb hg; obtain ⟨Ao10, co10, eo10⟩ := Kd.S_slice HO64004.out; subst eo10; have hnb11 := NB64006_64001.out; have hnc11 := NB64001_64006.out; have hnb12 := NB64006_0.out; have hnc12 := NB0_64006.out; have hcz13_0 : w9.cell? ⟨gb64006, 0, none⟩ = some (.slice none 0 0) := (blk_cell BK64006.out 0).trans rfl; have hfz13_0 := blk_frozen BK64006.out 0) | ((with_reducible refine gate_callee (f := 115) rfl ?_); refine goesM (some 18) Tryd.func115 #[.pointer (some ⟨g, 0, none⟩), .agg #[.slice Ao10 t64002.length co10]] ?_; (with_reducible refine (spec_l01Cur_span.calls k g s0_0 s0_1 s0_2 _ _ t64002 t64007 t64008 t64009 t64010 w0 _ ?side1 ?side2 ?side3 ?side4 A4.out).mono ?_); (case side1 => exact pIIsS141 HI0); (case side2 => exact hbIsS141); (case side3 => exact Kd.C_foot_own ((Kd.S_R (IsS141.apartS (show IsS141 w0 _ g s0_0 s0_1 s0_2 from pIIsS141 HI0) (by (with_reducible repeat (first | apply Kd.S_alloc | apply Kd.S_drewN | apply Kd.S_drew)); exact (Kd.S_mono (Kd.S_far (p := ⟨gb64006, 0, none⟩) (Kd.S_types HO64004.out BK64006.out (by decide)) (fun _ hk => hk.2) (.slice Ao10 t64002.length co10)) (fun _ h_ => h_.1))) (by decide)))) (fun _ h_ => h_.2)); (case side4 => exact (Kd.S_reads' HO64004.out).2.1); rintro e w14 ⟨rfl, hi, hb, hk⟩; refine ⟨_, rfl, ?_⟩; replace BK64001 := Aside0.mk (KeepBut.blk hk (g' := gb64001) (o := .cells #[.int .i64 0, .int .i64 0, .slice none 0 0] 25 (0, 0)) (by refine pB ?_; refine blk_far ?_ NB64001_64006.out _; refine pB ?_; exact BK64001.out) NB64001_0.out (by simp)); replace HO64004 := Aside0.mk (Kd.S_mono (Kd.S_keep (IsS141.apartS (show IsS141 w0 _ g s0_0 s0_1 s0_2 from pIIsS141 HI0) (by (with_reducible repeat (first | apply Kd.S_alloc | apply Kd.S_drewN | apply Kd.S_drew)); exact (Kd.S_mono (Kd.S_far (p := ⟨gb64006, 0, none⟩) (Kd.S_types HO64004.out BK64006.out (by decide)) (fun _ hk => hk.2) (.slice Ao10 t64002.length co10)) (fun _ h_ => h_.1))) (by decide)) hk (fun _ h => h.2)) (fun _ h => h.1)); replace BK64006 := Aside0.mk (KeepBut.blk hk (g' := gb64006) (o := .cells #[.slice Ao10 t64002.length co10] 71 (0, 0)) (by refine pB ?_; refine blk_put (cs := #[.slice none 0 0]) ?_ 0 _ rfl; refine pB ?_; exact BK64006.out) NB64006_0.out (by simp)); replace HK := Aside0.mk (KeepBut.trans (by repeat (first | (with_reducible first | exact HK.out | apply KeepBut.set_ | apply keep_drewN | apply keep_drew | apply keep_alloc | refine keep_far ?_ GW64001.out _ | refine keep_far ?_ GW64006.out _) | exact HK.out)) hk (.inl rfl)); replace HB := Aside0.mk (hb); replace HI0 := Aside0.mk (hi); (try clear hb); (try clear hb2); (try clear hk); (try clear hi)) | ((with_reducible refine gate_dst (N := 9) rfl ?_); refine boxE 9 #[.int .i64 0, .int .i64 0, .slice none 0 0] 25 ?_; intro gb64011 hg w15 BK64011 hb; have GW64011 := Aside0.mk ((by rw [hg]; exact (keep_size (w := w) (g := g) (row := none) (by repeat (first | (with_reducible first | exact HK.out | apply KeepBut.set_ | apply keep_drewN | apply keep_drew | apply keep_alloc | refine keep_far ?_ GW64001.out _ | refine keep_far ?_ GW64006.out _) | exact HK.out))) : w.heap.size ≤ gb64011)); have GE64011 := Aside0.mk ((Nat.le_trans HW0.out (by rw [hg]; exact (keep_size (w := w) (g := g) (row := none) (by repeat (first | (with_reducible first | exact HK.out | apply KeepBut.set_ | apply keep_drewN | apply keep_drew | apply keep_alloc | refine keep_far ?_ GW64001.out _ | refine keep_far ?_ GW64006.out _) | exact HK.out))) : w.heap.size ≤ gb64011) : w0.heap.size ≤ gb64011)); have NB64001_64011 := Aside0.mk (nbl BK64001 hg); have NB64011_64001 := Aside0.mk (nbg BK64001 hg); have NB64006_64011 := Aside0.mk (nbl BK64006 hg); have NB64011_64006 := Aside0.mk (nbg BK64006 hg); have NB0_64011 := Aside0.mk ((by rw [hg]; exact Nat.ne_of_lt (IsS141.lt (show IsS141 w0 _ g s0_0 t64009 t64010 from pIIsS141 HI0)) : g ≠ gb64011)); have NB64011_0 := Aside0.mk ((by rw [hg]; exact Nat.ne_of_gt (IsS141.lt (show IsS141 w0 _ g s0_0 t64009 t64010 from pIIsS141 HI0)) : gb64011 ≠ g)); replace HO64004 := Aside0.mk (Kd.S_below (hrnS HO64004) hb); replace BK64001 := Aside0.mk (bkb BK64001 hb); replace BK64006 := Aside0.mk (bkb BK64006 hb); replace HK := Aside0.mk (KeepBut.trans (by repeat (first | (with_reducible first | exact HK.out | apply KeepBut.set_ | apply keep_drewN | apply keep_drew | apply keep_alloc | refine keep_far ?_ GW64001.out _ | refine keep_far ?_ GW64006.out _) | exact HK.out)) (KeepBut.of_below hb g none) (.inl rfl)); replace HB := Aside0.mk (below_step hbIsS141 hb); replace HI0 := Aside0.mk (IsS141.below (pIIsS141 HI0) hb); clear hb hg; have hnb16 := NB64011_64001.out; have hnc16 := NB64001_64011.out; have hnb17 := NB64011_64006.out; have hnc17 := NB64006_64011.out; have hnb18 := NB64011_0.out; have hnc18 := NB0_64011.out; have hcz19_0 : w15.cell? ⟨gb64011, 0, none⟩ = some (.int .i64 0) := (blk_cell BK64011.out 0).trans rfl; have hcz19_1 : w15.cell? ⟨gb64011, 1, none⟩ = some (.int .i64 0) := (blk_cell BK64011.out 1).trans rfl; have hcz19_2 : w15.cell? ⟨gb64011, 2, none⟩ = some (.slice none 0 0) := (blk_cell BK64011.out 2).trans rfl; have hfz19_0 := blk_frozen BK64011.out 0; have hfz19_1 := blk_frozen BK64011.out 1; have hfz19_2 := blk_frozen BK64011.out 2) | ((with_reducible refine gate_callee (f := 70) rfl ?_); refine goesM (some 27) Tryd.func70 #[.pointer (some ⟨g, 0, none⟩), .int .i64 2] ?_; (with_reducible refine (spec_l01Cur_once.calls g s0_0 t64009 t64010 2 t64012 t64013 t64014 w0 _ ?side1 ?side2 A5.out).mono ?_); (case side1 => exact pIIsS141 HI0); (case side2 => exact hbIsS141); rintro e w20 ⟨rfl, hi, hb, hk⟩; refine ⟨_, rfl, ?_⟩; replace BK64001 := Aside0.mk (KeepBut.blk hk (g' := gb64001) (o := .cells #[.int .i64 0, .int .i64 0, .slice none 0 0] 25 (0, 0)) (by refine pB ?_; refine blk_far ?_ NB64001_64011.out _; refine pB ?_; refine blk_far ?_ NB64001_64011.out _; refine pB ?_; refine blk_far ?_ NB64001_64011.out _; refine pB ?_; exact BK64001.out) NB64001_0.out (by simp)); replace HO64004 := Aside0.mk (Kd.S_mono (Kd.S_keep (IsS141.apartS (show IsS141 w0 _ g s0_0 t64009 t64010 from pIIsS141 HI0) (by (with_reducible repeat (first | apply Kd.S_alloc | apply Kd.S_drewN | apply Kd.S_drew)); exact (Kd.S_mono (Kd.S_far (p := ⟨gb64011, 2, none⟩) (Kd.S_far (p := ⟨gb64011, 1, none⟩) (Kd.S_far (p := ⟨gb64011, 0, none⟩) (Kd.S_types HO64004.out BK64011.out (by decide)) (fun _ hk => hk.2) (.int .i64 t64007)) (fun _ hk => hk.2) (.int .i64 (wrap64 (t64008 - t64007)))) (fun _ hk => hk.2) (.slice none 0 0)) (fun _ h_ => h_.1))) (by decide)) hk (fun _ h => h.2)) (fun _ h => h.1)); replace BK64006 := Aside0.mk (KeepBut.blk hk (g' := gb64006) (o := .cells #[.slice Ao10 t64002.length co10] 71 (0, 0)) (by refine pB ?_; refine blk_far ?_ NB64006_64011.out _; refine pB ?_; refine blk_far ?_ NB64006_64011.out _; refine pB ?_; refine blk_far ?_ NB64006_64011.out _; refine pB ?_; exact BK64006.out) NB64006_0.out (by simp)); replace BK64011 := Aside0.mk (KeepBut.blk hk (g' := gb64011) (o := .cells #[.int .i64 t64007, .int .i64 (wrap64 (t64008 - t64007)), .slice none 0 0] 25 (0, 0)) (by refine pB ?_; refine blk_put (cs := #[.int .i64 t64007, .int .i64 (wrap64 (t64008 - t64007)), .slice none 0 0]) ?_ 2 _ rfl; refine pB ?_; refine blk_put (cs := #[.int .i64 t64007, .int .i64 0, .slice none 0 0]) ?_ 1 _ rfl; refine pB ?_; refine blk_put (cs := #[.int .i64 0, .int .i64 0, .slice none 0 0]) ?_ 0 _ rfl; refine pB ?_; exact BK64011.out) NB64011_0.out (by simp)); replace HK := Aside0.mk (KeepBut.trans (by repeat (first | (with_reducible first | exact HK.out | apply KeepBut.set_ | apply keep_drewN | apply keep_drew | apply keep_alloc | refine keep_far ?_ GW64001.out _ | refine keep_far ?_ GW64006.out _ | refine keep_far ?_ GW64011.out _) | exact HK.out)) hk (.inl rfl)); replace HB := Aside0.mk (hb); replace HI0 := Aside0.mk (hi); (try clear hb); (try clear hb2); (try clear hk); (try clear hi)))
 (try simp only [Act.put, List.setIfInBounds_toArray, List.set_cons_zero, List.set_cons_succ])
 go_cut [] (fun wc => ∃ (kq : Nat) (x1001_5 : Int) (x1002_5 : Int) (x64012001_5 : Int), Aside0 (spec_l01Cur_edit.j1 kq s0_0 x1001_5 x1002_5 t64007 x64012001_5 = some (r1, r2, r3, r4, r5)) ∧ Aside0 (kq ≤ k) ∧ Aside0 (Kd.S k125 125 wc w.heap.size (fun _ => True) (.slice Ao10 t64002.length co10) t64002) ∧ Aside0 (wc.heap[gb64001]? = some (.cells #[.int .i64 0, .int .i64 0, (.slice none 0 0)] 25 (0, 0))) ∧ Aside0 (wc.heap[gb64006]? = some (.cells #[(.slice Ao10 t64002.length co10)] 71 (0, 0))) ∧ Aside0 (wc.heap[gb64011]? = some (.cells #[.int .i64 t64007, .int .i64 x64012001_5, (.slice none 0 0)] 25 (0, 0))) ∧ Aside0 (IsS141 w0 wc g s0_0 x1001_5 x1002_5) ∧ Aside0 (KeepBut w wc g none) ∧ Aside0 (Below w0.heap.size w0 wc))
 case first =>
  have H := HC6.out
  clear HC6
  by_cases c21 : t64012 = true
  ·subst c21
   have H1 : (spec_l01Cur_edit.j1 k s0_0 t64013 t64014 t64007 0) = some (r1, r2, r3, r4, r5) := by rw [if_pos rfl] at H; exact H
   clear H
   have H := H1
   clear H1
   have H' := Aside0.mk H
   clear H
   have hnb22 := NB64011_64001.out
   have hnc22 := NB64001_64011.out
   have hnb23 := NB64011_64006.out
   have hnc23 := NB64006_64011.out
   have hnb24 := NB64011_0.out
   have hnc24 := NB0_64011.out
   have hcz25_0 : w20.cell? ⟨gb64011, 0, none⟩ = some (.int .i64 t64007) := (blk_cell BK64011.out 0).trans rfl
   have hcz25_1 : w20.cell? ⟨gb64011, 1, none⟩ = some (.int .i64 (wrap64 (t64008 - t64007))) := (blk_cell BK64011.out 1).trans rfl
   have hcz25_2 : w20.cell? ⟨gb64011, 2, none⟩ = some (.slice none 0 0) := (blk_cell BK64011.out 2).trans rfl
   have hfz25_0 := blk_frozen BK64011.out 0
   have hfz25_1 := blk_frozen BK64011.out 1
   have hfz25_2 := blk_frozen BK64011.out 2
   go_wp2
   go_meet
   case rel => exact ⟨_, (t64013), (t64014), (0), H', ⟨by first | omega | exact Nat.le_refl _⟩, ⟨by (with_reducible repeat (first | apply Kd.S_alloc | apply Kd.S_drewN | apply Kd.S_drew)); exact Kd.S_mono (Kd.S_far (p := ⟨gb64011, 1, none⟩) (Kd.S_types HO64004.out BK64011.out (by decide)) (fun _ hk => hk.2) (.int .i64 0)) (fun _ hk => trivial)⟩, ⟨by refine pB ?_; refine blk_far ?_ NB64001_64011.out _; refine pB ?_; exact BK64001.out⟩, ⟨by refine pB ?_; refine blk_far ?_ NB64006_64011.out _; refine pB ?_; exact BK64006.out⟩, ⟨by refine pB ?_; refine blk_put (cs := #[.int .i64 t64007, .int .i64 (wrap64 (t64008 - t64007)), .slice none 0 0]) ?_ 1 _ rfl; refine pB ?_; exact BK64011.out⟩, ⟨pIIsS141 HI0⟩, ⟨by repeat (first | (with_reducible first | exact HK.out | apply KeepBut.set_ | apply keep_drewN | apply keep_drew | apply keep_alloc | refine keep_far ?_ GW64001.out _ | refine keep_far ?_ GW64006.out _ | refine keep_far ?_ GW64011.out _) | exact HK.out)⟩, ⟨hbIsS141⟩⟩
  ·replace c21 := Bool.eq_false_iff.mpr c21
   subst c21
   have H1 : (if (wrap64 (t64008 - t64007)) > 6 then ((spec_l01Cur_once.f s0_0 t64013 t64014 2).bind fun bt64015 => (spec_l01Cur_edit.j0 k t64007 t64008 bt64015.1 s0_0 bt64015.2.1 bt64015.2.2 t64002 t64007 (wrap64 (t64008 - t64007)))) else (spec_l01Cur_edit.j0 k t64007 t64008 false s0_0 t64013 t64014 t64002 t64007 (wrap64 (t64008 - t64007)))) = some (r1, r2, r3, r4, r5) := by rw [if_neg (show ¬ (false = true) by decide)] at H; exact H
   clear H
   have H := H1
   clear H1
   have HC26 := Aside0.mk H
   clear H
   go_upto_region 6 with (fail)
   go_cut [35] (fun v35 wc => ∃ (kq : Nat) (x35_25 : Bool) (x1001_25 : Int) (x1002_25 : Int), v35 = .bool x35_25 ∧ Aside0 (spec_l01Cur_edit.j0 kq t64007 t64008 x35_25 s0_0 x1001_25 x1002_25 t64002 t64007 (wrap64 (t64008 - t64007)) = some (r1, r2, r3, r4, r5)) ∧ Aside0 (kq ≤ k) ∧ Aside0 (Kd.S k125 125 wc w.heap.size (fun _ => True) (.slice Ao10 t64002.length co10) t64002) ∧ Aside0 (wc.heap[gb64001]? = some (.cells #[.int .i64 0, .int .i64 0, (.slice none 0 0)] 25 (0, 0))) ∧ Aside0 (wc.heap[gb64006]? = some (.cells #[(.slice Ao10 t64002.length co10)] 71 (0, 0))) ∧ Aside0 (wc.heap[gb64011]? = some (.cells #[.int .i64 t64007, .int .i64 (wrap64 (t64008 - t64007)), (.slice none 0 0)] 25 (0, 0))) ∧ Aside0 (IsS141 w0 wc g s0_0 x1001_25 x1002_25) ∧ Aside0 (KeepBut w wc g none) ∧ Aside0 (Below w0.heap.size w0 wc))
   case first =>
    have H := HC26.out
    clear HC26
    by_cases c27 : (wrap64 (t64008 - t64007)) > 6
    ·rw [if_pos c27] at H
     have c27b0 : decide (6 < (wrap64 (t64008 - t64007))) = true := decide_eq_true c27
     clear c27
     (first | rw [c27b0] | (simp only [i64_w, i32_w]; rw [c27b0]) | skip)
     replace H := Option.bind_eq_some_iff.mp H
     obtain ⟨⟨t64015, t64016, t64017⟩, A280, H⟩ := H
     replace H : (spec_l01Cur_edit.j0 k t64007 t64008 t64015 s0_0 t64016 t64017 t64002 t64007 (wrap64 (t64008 - t64007))) = some (r1, r2, r3, r4, r5) := H
     have A28 := Aside0.mk A280
     clear A280
     have H' := Aside0.mk H
     clear H
     have hnb29 := NB64011_64001.out
     have hnc29 := NB64001_64011.out
     have hnb30 := NB64011_64006.out
     have hnc30 := NB64006_64011.out
     have hnb31 := NB64011_0.out
     have hnc31 := NB0_64011.out
     have hcz32_0 : w20.cell? ⟨gb64011, 0, none⟩ = some (.int .i64 t64007) := (blk_cell BK64011.out 0).trans rfl
     have hcz32_1 : w20.cell? ⟨gb64011, 1, none⟩ = some (.int .i64 (wrap64 (t64008 - t64007))) := (blk_cell BK64011.out 1).trans rfl
     have hcz32_2 : w20.cell? ⟨gb64011, 2, none⟩ = some (.slice none 0 0) := (blk_cell BK64011.out 2).trans rfl
     have hfz32_0 := blk_frozen BK64011.out 0
     have hfz32_1 := blk_frozen BK64011.out 1
     have hfz32_2 := blk_frozen BK64011.out 2
     go_wp2_with (first | (go_at_call 70; (with_reducible refine (spec_l01Cur_once.calls g s0_0 t64013 t64014 2 t64015 t64016 t64017 w0 _ ?side1 ?side2 A28.out).mono ?_); (case side1 => exact pIIsS141 HI0); (case side2 => exact hbIsS141); rintro e w33 ⟨rfl, hi, hb, hk⟩; replace BK64001 := Aside0.mk (bkk hk BK64001 NB64001_0.out); replace HO64004 := Aside0.mk (Kd.S_mono (Kd.S_keep (IsS141.apartS (show IsS141 w0 _ g s0_0 t64013 t64014 from pIIsS141 HI0) (hrnS HO64004) (by decide)) hk (fun _ h => h.2)) (fun _ h => h.1)); replace BK64006 := Aside0.mk (bkk hk BK64006 NB64006_0.out); replace BK64011 := Aside0.mk (bkk hk BK64011 NB64011_0.out); replace HK := Aside0.mk (KeepBut.trans (by repeat (first | (with_reducible first | exact HK.out | apply KeepBut.set_ | apply keep_drewN | apply keep_drew | apply keep_alloc | refine keep_far ?_ GW64001.out _ | refine keep_far ?_ GW64006.out _ | refine keep_far ?_ GW64011.out _) | exact HK.out)) hk (.inl rfl)); replace HB := Aside0.mk (hb); replace HI0 := Aside0.mk (hi); (try clear hb); (try clear hb2); (try clear hk); (try clear hi)))
     go_meet
     case rel => exact ⟨_, (t64015), (t64016), (t64017), rfs, H', ⟨by first | omega | exact Nat.le_refl _⟩, ⟨(hrnS HO64004)⟩, ⟨by refine pB ?_; exact BK64001.out⟩, ⟨by refine pB ?_; exact BK64006.out⟩, ⟨by refine pB ?_; exact BK64011.out⟩, ⟨pIIsS141 HI0⟩, ⟨by repeat (first | (with_reducible first | exact HK.out | apply KeepBut.set_ | apply keep_drewN | apply keep_drew | apply keep_alloc | refine keep_far ?_ GW64001.out _ | refine keep_far ?_ GW64006.out _ | refine keep_far ?_ GW64011.out _) | exact HK.out)⟩, ⟨hbIsS141⟩⟩
    ·rw [if_neg c27] at H
     have c27b0 : decide (6 < (wrap64 (t64008 - t64007))) = false := decide_eq_false c27
     clear c27
     (first | rw [c27b0] | (simp only [i64_w, i32_w]; rw [c27b0]) | skip)
     have H' := Aside0.mk H
     clear H
     have hnb34 := NB64011_64001.out
     have hnc34 := NB64001_64011.out
     have hnb35 := NB64011_64006.out
     have hnc35 := NB64006_64011.out
     have hnb36 := NB64011_0.out
     have hnc36 := NB0_64011.out
     have hcz37_0 : w20.cell? ⟨gb64011, 0, none⟩ = some (.int .i64 t64007) := (blk_cell BK64011.out 0).trans rfl
     have hcz37_1 : w20.cell? ⟨gb64011, 1, none⟩ = some (.int .i64 (wrap64 (t64008 - t64007))) := (blk_cell BK64011.out 1).trans rfl
     have hcz37_2 : w20.cell? ⟨gb64011, 2, none⟩ = some (.slice none 0 0) := (blk_cell BK64011.out 2).trans rfl
     have hfz37_0 := blk_frozen BK64011.out 0
     have hfz37_1 := blk_frozen BK64011.out 1
     have hfz37_2 := blk_frozen BK64011.out 2
     go_wp2
     go_meet
     case rel => exact ⟨_, (false), (t64013), (t64014), rfs, H', ⟨by first | omega | exact Nat.le_refl _⟩, ⟨(hrnS HO64004)⟩, ⟨by refine pB ?_; exact BK64001.out⟩, ⟨by refine pB ?_; exact BK64006.out⟩, ⟨by refine pB ?_; exact BK64011.out⟩, ⟨pIIsS141 HI0⟩, ⟨by repeat (first | (with_reducible first | exact HK.out | apply KeepBut.set_ | apply keep_drewN | apply keep_drew | apply keep_alloc | refine keep_far ?_ GW64001.out _ | refine keep_far ?_ GW64006.out _ | refine keep_far ?_ GW64011.out _) | exact HK.out)⟩, ⟨hbIsS141⟩⟩
   case rest =>
    clear HC26
    try clear c1
    try clear c2
    try clear p2
    try clear c3
    try clear c6
    try clear p6
    try clear c7
    try clear c11
    try clear c12
    try clear c16
    try clear c17
    try clear c18
    try clear c21
    try clear c22
    try clear c23
    try clear c24
    try clear c27
    try clear c27b0
    try clear c29
    try clear c30
    try clear c31
    try clear c34
    try clear c35
    try clear c36
    try clear hcz13_0
    try clear hcz19_0
    try clear hcz19_1
    try clear hcz19_2
    try clear hcz25_0
    try clear hcz25_1
    try clear hcz25_2
    try clear hcz32_0
    try clear hcz32_1
    try clear hcz32_2
    try clear hcz37_0
    try clear hcz37_1
    try clear hcz37_2
    try clear hfz13_0
    try clear hfz19_0
    try clear hfz19_1
    try clear hfz19_2
    try clear hfz25_0
    try clear hfz25_1
    try clear hfz25_2
    try clear hfz32_0
    try clear hfz32_1
    try clear hfz32_2
    try clear hfz37_0
    try clear hfz37_1
    try clear hfz37_2
    obtain ⟨kq, x35_25, x1001_25, x1002_25, rfl, HA, HJ25, HO_64007000, BK64001, BK64006, BK64011, HI0, HK, HB⟩ := hcut
    cases kq with
    | zero => exact absurd HA.out (by simp [spec_l01Cur_edit.j0])
    | succ kj25 =>
     have H := HA.out
     clear HA
     simp only [spec_l01Cur_edit.j0] at H
     by_cases c38 : x35_25 = true
     ·subst c38
      have H1 : ((spec_l01Cur_cutOf.f kj25 s0_0 x1001_25 x1002_25 t64002).bind fun bt64018 => (if (wrap64 (bt64018.1 - t64007)) < 0 then (spec_l01Cur_edit.j1 kj25 s0_0 bt64018.2.1 bt64018.2.2 t64007 (wrap64 (t64008 - t64007))) else (spec_l01Cur_edit.j1 kj25 s0_0 bt64018.2.1 bt64018.2.2 t64007 (wrap64 (bt64018.1 - t64007))))) = some (r1, r2, r3, r4, r5) := by rw [if_pos rfl] at H; exact H
      clear H
      have H := H1
      clear H1
      replace H := Option.bind_eq_some_iff.mp H
      obtain ⟨⟨t64018, t64019, t64020⟩, A390, H⟩ := H
      replace H : (if (wrap64 (t64018 - t64007)) < 0 then (spec_l01Cur_edit.j1 kj25 s0_0 t64019 t64020 t64007 (wrap64 (t64008 - t64007))) else (spec_l01Cur_edit.j1 kj25 s0_0 t64019 t64020 t64007 (wrap64 (t64018 - t64007)))) = some (r1, r2, r3, r4, r5) := H
      have A39 := Aside0.mk A390
      clear A390
      by_cases c40 : (wrap64 (t64018 - t64007)) < 0
      ·rw [if_pos c40] at H
       have c40b0 : decide ((wrap64 (t64018 - t64007)) < 0) = true := decide_eq_true c40
       clear c40
       have H' := Aside0.mk H
       clear H
       have hnb41 := NB64006_64001.out
       have hnc41 := NB64001_64006.out
       have hnb42 := NB64006_64011.out
       have hnc42 := NB64011_64006.out
       have hnb43 := NB64006_0.out
       have hnc43 := NB0_64006.out
       have hcz44_0 : wc.cell? ⟨gb64006, 0, none⟩ = some (.slice Ao10 t64002.length co10) := (blk_cell BK64006.out 0).trans rfl
       have hfz44_0 := blk_frozen BK64006.out 0
       go_wp2_with (first | ((with_reducible refine gate_callee (f := 107) rfl ?_); refine goesM (some 38) Tryd.func107 #[.pointer (some ⟨g, 0, none⟩), .agg #[.slice Ao10 t64002.length co10]] ?_; (with_reducible refine (spec_l01Cur_cutOf.calls kj25 g s0_0 x1001_25 x1002_25 _ _ t64002 t64018 t64019 t64020 w0 _ ?side1 ?side2 ?side3 ?side4 A39.out).mono ?_); (case side1 => exact pIIsS141 HI0); (case side2 => exact hbIsS141); (case side3 => exact Kd.C_foot_own ((Kd.S_R (IsS141.apartS (show IsS141 w0 _ g s0_0 x1001_25 x1002_25 from pIIsS141 HI0) (hrnS HO_64007000) (by decide)))) (fun _ h_ => h_.2)); (case side4 => exact (Kd.S_reads' HO_64007000.out).2.1); rintro e w45 ⟨rfl, hi, hb, hk⟩; refine ⟨_, rfl, ?_⟩; replace HO_64007000 := Aside0.mk (Kd.S_mono (Kd.S_keep (IsS141.apartS (show IsS141 w0 _ g s0_0 x1001_25 x1002_25 from pIIsS141 HI0) (hrnS HO_64007000) (by decide)) hk (fun _ h => h.2)) (fun _ h => h.1)); replace BK64001 := Aside0.mk (bkk hk BK64001 NB64001_0.out); replace BK64006 := Aside0.mk (bkk hk BK64006 NB64006_0.out); replace BK64011 := Aside0.mk (bkk hk BK64011 NB64011_0.out); replace HK := Aside0.mk (KeepBut.trans (by repeat (first | (with_reducible first | exact HK.out | apply KeepBut.set_ | apply keep_drewN | apply keep_drew | apply keep_alloc | refine keep_far ?_ GW64001.out _ | refine keep_far ?_ GW64006.out _ | refine keep_far ?_ GW64011.out _) | exact HK.out)) hk (.inl rfl)); replace HB := Aside0.mk (hb); replace HI0 := Aside0.mk (hi); (try clear hb); (try clear hb2); (try clear hk); (try clear hi); have hnb46 := NB64011_64001.out; have hnc46 := NB64001_64011.out; have hnb47 := NB64011_0.out; have hnc47 := NB0_64011.out; have hcz48_0 : w45.cell? ⟨gb64011, 0, none⟩ = some (.int .i64 t64007) := (blk_cell BK64011.out 0).trans rfl; have hcz48_1 : w45.cell? ⟨gb64011, 1, none⟩ = some (.int .i64 (wrap64 (t64008 - t64007))) := (blk_cell BK64011.out 1).trans rfl; have hcz48_2 : w45.cell? ⟨gb64011, 2, none⟩ = some (.slice none 0 0) := (blk_cell BK64011.out 2).trans rfl; have hfz48_0 := blk_frozen BK64011.out 0; have hfz48_1 := blk_frozen BK64011.out 1; have hfz48_2 := blk_frozen BK64011.out 2))
       go_meet
       case rel => exact ⟨_, (t64019), (t64020), (wrap64 (t64008 - t64007)), H', ⟨by have := HJ25.out; first | omega | exact Nat.le_refl _⟩, ⟨by (with_reducible repeat (first | apply Kd.S_alloc | apply Kd.S_drewN | apply Kd.S_drew)); exact Kd.S_mono (Kd.S_far (p := ⟨gb64011, 1, none⟩) (Kd.S_far (p := ⟨gb64011, 1, none⟩) (Kd.S_types HO_64007000.out BK64011.out (by decide)) (fun _ hk => hk.2) (.int .i64 (wrap64 (t64018 - t64007)))) (fun _ hk => hk.2) (.int .i64 (wrap64 (t64008 - t64007)))) (fun _ hk => trivial)⟩, ⟨by refine pB ?_; refine blk_far ?_ NB64001_64011.out _; refine pB ?_; refine blk_far ?_ NB64001_64011.out _; refine pB ?_; exact BK64001.out⟩, ⟨by refine pB ?_; refine blk_far ?_ NB64006_64011.out _; refine pB ?_; refine blk_far ?_ NB64006_64011.out _; refine pB ?_; exact BK64006.out⟩, ⟨by refine pB ?_; refine blk_put (cs := #[.int .i64 t64007, .int .i64 (wrap64 (t64018 - t64007)), .slice none 0 0]) ?_ 1 _ rfl; refine pB ?_; refine blk_put (cs := #[.int .i64 t64007, .int .i64 (wrap64 (t64008 - t64007)), .slice none 0 0]) ?_ 1 _ rfl; refine pB ?_; exact BK64011.out⟩, ⟨pIIsS141 HI0⟩, ⟨by repeat (first | (with_reducible first | exact HK.out | apply KeepBut.set_ | apply keep_drewN | apply keep_drew | apply keep_alloc | refine keep_far ?_ GW64001.out _ | refine keep_far ?_ GW64006.out _ | refine keep_far ?_ GW64011.out _) | exact HK.out)⟩, ⟨hbIsS141⟩⟩
      ·rw [if_neg c40] at H
       have c40b0 : decide ((wrap64 (t64018 - t64007)) < 0) = false := decide_eq_false c40
       clear c40
       have H' := Aside0.mk H
       clear H
       have hnb49 := NB64006_64001.out
       have hnc49 := NB64001_64006.out
       have hnb50 := NB64006_64011.out
       have hnc50 := NB64011_64006.out
       have hnb51 := NB64006_0.out
       have hnc51 := NB0_64006.out
       have hcz52_0 : wc.cell? ⟨gb64006, 0, none⟩ = some (.slice Ao10 t64002.length co10) := (blk_cell BK64006.out 0).trans rfl
       have hfz52_0 := blk_frozen BK64006.out 0
       go_wp2_with (first | ((with_reducible refine gate_callee (f := 107) rfl ?_); refine goesM (some 38) Tryd.func107 #[.pointer (some ⟨g, 0, none⟩), .agg #[.slice Ao10 t64002.length co10]] ?_; (with_reducible refine (spec_l01Cur_cutOf.calls kj25 g s0_0 x1001_25 x1002_25 _ _ t64002 t64018 t64019 t64020 w0 _ ?side1 ?side2 ?side3 ?side4 A39.out).mono ?_); (case side1 => exact pIIsS141 HI0); (case side2 => exact hbIsS141); (case side3 => exact Kd.C_foot_own ((Kd.S_R (IsS141.apartS (show IsS141 w0 _ g s0_0 x1001_25 x1002_25 from pIIsS141 HI0) (hrnS HO_64007000) (by decide)))) (fun _ h_ => h_.2)); (case side4 => exact (Kd.S_reads' HO_64007000.out).2.1); rintro e w53 ⟨rfl, hi, hb, hk⟩; refine ⟨_, rfl, ?_⟩; replace HO_64007000 := Aside0.mk (Kd.S_mono (Kd.S_keep (IsS141.apartS (show IsS141 w0 _ g s0_0 x1001_25 x1002_25 from pIIsS141 HI0) (hrnS HO_64007000) (by decide)) hk (fun _ h => h.2)) (fun _ h => h.1)); replace BK64001 := Aside0.mk (bkk hk BK64001 NB64001_0.out); replace BK64006 := Aside0.mk (bkk hk BK64006 NB64006_0.out); replace BK64011 := Aside0.mk (bkk hk BK64011 NB64011_0.out); replace HK := Aside0.mk (KeepBut.trans (by repeat (first | (with_reducible first | exact HK.out | apply KeepBut.set_ | apply keep_drewN | apply keep_drew | apply keep_alloc | refine keep_far ?_ GW64001.out _ | refine keep_far ?_ GW64006.out _ | refine keep_far ?_ GW64011.out _) | exact HK.out)) hk (.inl rfl)); replace HB := Aside0.mk (hb); replace HI0 := Aside0.mk (hi); (try clear hb); (try clear hb2); (try clear hk); (try clear hi); have hnb54 := NB64011_64001.out; have hnc54 := NB64001_64011.out; have hnb55 := NB64011_0.out; have hnc55 := NB0_64011.out; have hcz56_0 : w53.cell? ⟨gb64011, 0, none⟩ = some (.int .i64 t64007) := (blk_cell BK64011.out 0).trans rfl; have hcz56_1 : w53.cell? ⟨gb64011, 1, none⟩ = some (.int .i64 (wrap64 (t64008 - t64007))) := (blk_cell BK64011.out 1).trans rfl; have hcz56_2 : w53.cell? ⟨gb64011, 2, none⟩ = some (.slice none 0 0) := (blk_cell BK64011.out 2).trans rfl; have hfz56_0 := blk_frozen BK64011.out 0; have hfz56_1 := blk_frozen BK64011.out 1; have hfz56_2 := blk_frozen BK64011.out 2))
       go_meet
       case rel => exact ⟨_, (t64019), (t64020), (wrap64 (t64018 - t64007)), H', ⟨by have := HJ25.out; first | omega | exact Nat.le_refl _⟩, ⟨by (with_reducible repeat (first | apply Kd.S_alloc | apply Kd.S_drewN | apply Kd.S_drew)); exact Kd.S_mono (Kd.S_far (p := ⟨gb64011, 1, none⟩) (Kd.S_types HO_64007000.out BK64011.out (by decide)) (fun _ hk => hk.2) (.int .i64 (wrap64 (t64018 - t64007)))) (fun _ hk => trivial)⟩, ⟨by refine pB ?_; refine blk_far ?_ NB64001_64011.out _; refine pB ?_; exact BK64001.out⟩, ⟨by refine pB ?_; refine blk_far ?_ NB64006_64011.out _; refine pB ?_; exact BK64006.out⟩, ⟨by refine pB ?_; refine blk_put (cs := #[.int .i64 t64007, .int .i64 (wrap64 (t64008 - t64007)), .slice none 0 0]) ?_ 1 _ rfl; refine pB ?_; exact BK64011.out⟩, ⟨pIIsS141 HI0⟩, ⟨by repeat (first | (with_reducible first | exact HK.out | apply KeepBut.set_ | apply keep_drewN | apply keep_drew | apply keep_alloc | refine keep_far ?_ GW64001.out _ | refine keep_far ?_ GW64006.out _ | refine keep_far ?_ GW64011.out _) | exact HK.out)⟩, ⟨hbIsS141⟩⟩
     ·replace c38 := Bool.eq_false_iff.mpr c38
      subst c38
      have H1 : (spec_l01Cur_edit.j1 kj25 s0_0 x1001_25 x1002_25 t64007 (wrap64 (t64008 - t64007))) = some (r1, r2, r3, r4, r5) := by rw [if_neg (show ¬ (false = true) by decide)] at H; exact H
      clear H
      have H := H1
      clear H1
      have H' := Aside0.mk H
      clear H
      go_wp2
      go_meet
      case rel => exact ⟨_, (x1001_25), (x1002_25), ((wrap64 (t64008 - t64007))), H', ⟨by have := HJ25.out; first | omega | exact Nat.le_refl _⟩, ⟨(hrnS HO_64007000)⟩, ⟨by refine pB ?_; exact BK64001.out⟩, ⟨by refine pB ?_; exact BK64006.out⟩, ⟨by refine pB ?_; exact BK64011.out⟩, ⟨pIIsS141 HI0⟩, ⟨by repeat (first | (with_reducible first | exact HK.out | apply KeepBut.set_ | apply keep_drewN | apply keep_drew | apply keep_alloc | refine keep_far ?_ GW64001.out _ | refine keep_far ?_ GW64006.out _ | refine keep_far ?_ GW64011.out _) | exact HK.out)⟩, ⟨hbIsS141⟩⟩
 case rest =>
  clear HC6
  try clear c1
  try clear c2
  try clear p2
  try clear c3
  try clear c4
  try clear c5
  try clear c6
  try clear p6
  try clear c7
  try clear c10
  try clear c11
  try clear c12
  try clear c16
  try clear c17
  try clear c18
  try clear c21
  try clear c22
  try clear c23
  try clear c24
  try clear c27
  try clear c27b0
  try clear c29
  try clear c30
  try clear c31
  try clear c34
  try clear c35
  try clear c36
  try clear c38
  try clear c40
  try clear c40b0
  try clear c41
  try clear c42
  try clear c43
  try clear c46
  try clear c47
  try clear c49
  try clear c50
  try clear c51
  try clear c54
  try clear c55
  try clear hcz13_0
  try clear hcz19_0
  try clear hcz19_1
  try clear hcz19_2
  try clear hcz25_0
  try clear hcz25_1
  try clear hcz25_2
  try clear hcz32_0
  try clear hcz32_1
  try clear hcz32_2
  try clear hcz37_0
  try clear hcz37_1
  try clear hcz37_2
  try clear hcz44_0
  try clear hcz48_0
  try clear hcz48_1
  try clear hcz48_2
  try clear hcz52_0
  try clear hcz56_0
  try clear hcz56_1
  try clear hcz56_2
  try clear hfz13_0
  try clear hfz19_0
  try clear hfz19_1
  try clear hfz19_2
  try clear hfz25_0
  try clear hfz25_1
  try clear hfz25_2
  try clear hfz32_0
  try clear hfz32_1
  try clear hfz32_2
  try clear hfz37_0
  try clear hfz37_1
  try clear hfz37_2
  try clear hfz44_0
  try clear hfz48_0
  try clear hfz48_1
  try clear hfz48_2
  try clear hfz52_0
  try clear hfz56_0
  try clear hfz56_1
  try clear hfz56_2
  try clear p2
  try clear p6
  obtain ⟨kq, x1001_5, x1002_5, x64012001_5, HA, HJ5, HO_64007000, BK64001, BK64006, BK64011, HI0, HK, HB⟩ := hcut
  cases kq with
  | zero => exact absurd HA.out (by simp [spec_l01Cur_edit.j1])
  | succ kj5 =>
   have H := HA.out
   clear HA
   simp only [spec_l01Cur_edit.j1] at H
   replace H := Option.bind_eq_some_iff.mp H
   obtain ⟨⟨t64021, t64022, t64023⟩, A570, H⟩ := H
   replace H : (if t64021 = true then (some (t64007, x64012001_5, ([] : List Int), t64022, t64023)) else ((spec_l01Cur_text.f kj5 s0_0 t64022 t64023 6).bind fun bt64024 => (some (t64007, x64012001_5, bt64024.1, bt64024.2.1, bt64024.2.2)))) = some (r1, r2, r3, r4, r5) := H
   have A57 := Aside0.mk A570
   clear A570
   by_cases c58 : t64021 = true
   ·subst c58
    have H1 : (some (t64007, x64012001_5, ([] : List Int), t64022, t64023)) = some (r1, r2, r3, r4, r5) := by rw [if_pos rfl] at H; exact H
    clear H
    have H := H1
    clear H1
    simp only [Option.some.injEq, Prod.mk.injEq] at H
    obtain ⟨rfl, rfl, rfl, rfl, rfl⟩ := H
    go_wp2_with (first | ((with_reducible refine gate_callee (f := 70) rfl ?_); refine goesM (some 50) Tryd.func70 #[.pointer (some ⟨g, 0, none⟩), .int .i64 3] ?_; (with_reducible refine (spec_l01Cur_once.calls g s0_0 x1001_5 x1002_5 3 true t64022 t64023 w0 _ ?side1 ?side2 A57.out).mono ?_); (case side1 => exact pIIsS141 HI0); (case side2 => exact hbIsS141); rintro e w59 ⟨rfl, hi, hb, hk⟩; refine ⟨_, rfl, ?_⟩; replace HO_64007000 := Aside0.mk (Kd.S_mono (Kd.S_keep (IsS141.apartS (show IsS141 w0 _ g s0_0 x1001_5 x1002_5 from pIIsS141 HI0) (hrnS HO_64007000) (by decide)) hk (fun _ h => h.2)) (fun _ h => h.1)); replace BK64001 := Aside0.mk (bkk hk BK64001 NB64001_0.out); replace BK64006 := Aside0.mk (bkk hk BK64006 NB64006_0.out); replace BK64011 := Aside0.mk (bkk hk BK64011 NB64011_0.out); replace HK := Aside0.mk (KeepBut.trans (by repeat (first | (with_reducible first | exact HK.out | apply KeepBut.set_ | apply keep_drewN | apply keep_drew | apply keep_alloc | refine keep_far ?_ GW64001.out _ | refine keep_far ?_ GW64006.out _ | refine keep_far ?_ GW64011.out _) | exact HK.out)) hk (.inl rfl)); replace HB := Aside0.mk (hb); replace HI0 := Aside0.mk (hi); (try clear hb); (try clear hb2); (try clear hk); (try clear hi); have hnb60 := NB64011_64001.out; have hnc60 := NB64001_64011.out; have hnb61 := NB64011_64006.out; have hnc61 := NB64006_64011.out; have hnb62 := NB64011_0.out; have hnc62 := NB0_64011.out; have hcz63_0 : w59.cell? ⟨gb64011, 0, none⟩ = some (.int .i64 t64007) := (blk_cell BK64011.out 0).trans rfl; have hcz63_1 : w59.cell? ⟨gb64011, 1, none⟩ = some (.int .i64 x64012001_5) := (blk_cell BK64011.out 1).trans rfl; have hcz63_2 : w59.cell? ⟨gb64011, 2, none⟩ = some (.slice none 0 0) := (blk_cell BK64011.out 2).trans rfl; have hfz63_0 := blk_frozen BK64011.out 0; have hfz63_1 := blk_frozen BK64011.out 1; have hfz63_2 := blk_frozen BK64011.out 2; have hnb64 := NB64001_64006.out; have hnc64 := NB64006_64001.out; have hnb65 := NB64001_0.out; have hnc65 := NB0_64001.out; have hcz66_0 : w59.cell? ⟨gb64001, 0, none⟩ = some (.int .i64 0) := (blk_cell BK64001.out 0).trans rfl; have hcz66_1 : w59.cell? ⟨gb64001, 1, none⟩ = some (.int .i64 0) := (blk_cell BK64001.out 1).trans rfl; have hcz66_2 : w59.cell? ⟨gb64001, 2, none⟩ = some (.slice none 0 0) := (blk_cell BK64001.out 2).trans rfl; have hfz66_0 := blk_frozen BK64001.out 0; have hfz66_1 := blk_frozen BK64001.out 1; have hfz66_2 := blk_frozen BK64001.out 2))
    refine bodyPost_ret (results_cell_row rfl _ _ gb64001 25 #[.int .i64 t64007, .int .i64 x64012001_5, .slice none 0 0] (0, 0) _ rfl (by refine pB ?_; refine blk_put (cs := #[.int .i64 t64007, .int .i64 x64012001_5, .slice none 0 0]) ?_ 2 _ rfl; refine pB ?_; refine blk_put (cs := #[.int .i64 t64007, .int .i64 0, .slice none 0 0]) ?_ 1 _ rfl; refine pB ?_; refine blk_put (cs := #[.int .i64 0, .int .i64 0, .slice none 0 0]) ?_ 0 _ rfl; refine pB ?_; exact BK64001.out) Tryd.underlying25 rfl (by kernel_rfl)) rfl ?_
    exact ⟨_, erf, by first | exact Kd.R_nil _ _ _ _ _ | exact Kd.N_nil _ _ _ _ _ | exact Kd.V_nil _ _ _ _ _ | exact Kd.Q_nil _ _ _ _ _ | exact Kd.S_nil _ _ _ _ _, pIIsS141 HI0, hbIsS141, by repeat (first | (with_reducible first | exact HK.out | apply KeepBut.set_ | apply keep_drewN | apply keep_drew | apply keep_alloc | refine keep_far ?_ GW64001.out _ | refine keep_far ?_ GW64006.out _ | refine keep_far ?_ GW64011.out _) | exact HK.out)⟩
   ·replace c58 := Bool.eq_false_iff.mpr c58
    subst c58
    have H1 : ((spec_l01Cur_text.f kj5 s0_0 t64022 t64023 6).bind fun bt64024 => (some (t64007, x64012001_5, bt64024.1, bt64024.2.1, bt64024.2.2))) = some (r1, r2, r3, r4, r5) := by rw [if_neg (show ¬ (false = true) by decide)] at H; exact H
    clear H
    have H := H1
    clear H1
    replace H := Option.bind_eq_some_iff.mp H
    obtain ⟨⟨t64024, t64027, t64028⟩, A670, H⟩ := H
    replace H : (some (t64007, x64012001_5, t64024, t64027, t64028)) = some (r1, r2, r3, r4, r5) := H
    have A67 := Aside0.mk A670
    clear A670
    simp only [Option.some.injEq, Prod.mk.injEq] at H
    obtain ⟨rfl, rfl, rfl, rfl, rfl⟩ := H
    go_wp2_with (first | ((with_reducible refine gate_callee (f := 70) rfl ?_); refine goesM (some 50) Tryd.func70 #[.pointer (some ⟨g, 0, none⟩), .int .i64 3] ?_; (with_reducible refine (spec_l01Cur_once.calls g s0_0 x1001_5 x1002_5 3 false t64022 t64023 w0 _ ?side1 ?side2 A57.out).mono ?_); (case side1 => exact pIIsS141 HI0); (case side2 => exact hbIsS141); rintro e w68 ⟨rfl, hi, hb, hk⟩; refine ⟨_, rfl, ?_⟩; replace HO_64007000 := Aside0.mk (Kd.S_mono (Kd.S_keep (IsS141.apartS (show IsS141 w0 _ g s0_0 x1001_5 x1002_5 from pIIsS141 HI0) (hrnS HO_64007000) (by decide)) hk (fun _ h => h.2)) (fun _ h => h.1)); replace BK64001 := Aside0.mk (bkk hk BK64001 NB64001_0.out); replace BK64006 := Aside0.mk (bkk hk BK64006 NB64006_0.out); replace BK64011 := Aside0.mk (bkk hk BK64011 NB64011_0.out); replace HK := Aside0.mk (KeepBut.trans (by repeat (first | (with_reducible first | exact HK.out | apply KeepBut.set_ | apply keep_drewN | apply keep_drew | apply keep_alloc | refine keep_far ?_ GW64001.out _ | refine keep_far ?_ GW64006.out _ | refine keep_far ?_ GW64011.out _) | exact HK.out)) hk (.inl rfl)); replace HB := Aside0.mk (hb); replace HI0 := Aside0.mk (hi); (try clear hb); (try clear hb2); (try clear hk); (try clear hi)) | ((with_reducible refine gate_callee (f := 62) rfl ?_); refine goesM (some 53) Tryd.func62 #[.pointer (some ⟨g, 0, none⟩), .int .i64 6] ?_; (with_reducible refine (spec_l01Cur_text.calls kj5 g s0_0 t64022 t64023 6 t64024 t64027 t64028 w0 _ ?side1 ?side2 A67.out).mono ?_); (case side1 => exact pIIsS141 HI0); (case side2 => exact hbIsS141); rintro e w69 ⟨v64025, rfl, ho0, hi, hb, hk⟩; refine ⟨_, rfl, ?_⟩; have HO64026 := Aside0.mk (Kd.R_lower ho0 (keep_size (w := w) (g := g) (row := none) (by repeat (first | (with_reducible first | exact HK.out | apply KeepBut.set_ | apply keep_drewN | apply keep_drew | apply keep_alloc | refine keep_far ?_ GW64001.out _ | refine keep_far ?_ GW64006.out _ | refine keep_far ?_ GW64011.out _) | exact HK.out)))); replace HO_64007000 := Aside0.mk (Kd.S_mono (Kd.S_told (Kd.S_oldK (IsS141.apartS (show IsS141 w0 _ g s0_0 t64022 t64023 from pIIsS141 HI0) (hrnS HO_64007000) (by decide)) hk) (Kd.R_base ho0)) (fun _ h_ => h_.1)); replace BK64001 := Aside0.mk (bkk hk BK64001 NB64001_0.out); replace BK64006 := Aside0.mk (bkk hk BK64006 NB64006_0.out); replace BK64011 := Aside0.mk (bkk hk BK64011 NB64011_0.out); replace HK := Aside0.mk (KeepBut.trans (by repeat (first | (with_reducible first | exact HK.out | apply KeepBut.set_ | apply keep_drewN | apply keep_drew | apply keep_alloc | refine keep_far ?_ GW64001.out _ | refine keep_far ?_ GW64006.out _ | refine keep_far ?_ GW64011.out _) | exact HK.out)) hk (.inl rfl)); replace HB := Aside0.mk (hb); replace HI0 := Aside0.mk (hi); (try clear hb); (try clear hb2); (try clear hk); (try clear hi); (try clear ho0); obtain ⟨Ao70, co70, eo70⟩ := Kd.R_slice HO64026.out; subst eo70; have hnb71 := NB64011_64001.out; have hnc71 := NB64001_64011.out; have hnb72 := NB64011_64006.out; have hnc72 := NB64006_64011.out; have hnb73 := NB64011_0.out; have hnc73 := NB0_64011.out; have hcz74_0 : w69.cell? ⟨gb64011, 0, none⟩ = some (.int .i64 t64007) := (blk_cell BK64011.out 0).trans rfl; have hcz74_1 : w69.cell? ⟨gb64011, 1, none⟩ = some (.int .i64 x64012001_5) := (blk_cell BK64011.out 1).trans rfl; have hcz74_2 : w69.cell? ⟨gb64011, 2, none⟩ = some (.slice none 0 0) := (blk_cell BK64011.out 2).trans rfl; have hfz74_0 := blk_frozen BK64011.out 0; have hfz74_1 := blk_frozen BK64011.out 1; have hfz74_2 := blk_frozen BK64011.out 2; have hnb75 := NB64001_64006.out; have hnc75 := NB64006_64001.out; have hnb76 := NB64001_0.out; have hnc76 := NB0_64001.out; have hcz77_0 : w69.cell? ⟨gb64001, 0, none⟩ = some (.int .i64 0) := (blk_cell BK64001.out 0).trans rfl; have hcz77_1 : w69.cell? ⟨gb64001, 1, none⟩ = some (.int .i64 0) := (blk_cell BK64001.out 1).trans rfl; have hcz77_2 : w69.cell? ⟨gb64001, 2, none⟩ = some (.slice none 0 0) := (blk_cell BK64001.out 2).trans rfl; have hfz77_0 := blk_frozen BK64001.out 0; have hfz77_1 := blk_frozen BK64001.out 1; have hfz77_2 := blk_frozen BK64001.out 2))
    refine bodyPost_ret (results_cell_row rfl _ _ gb64001 25 #[.int .i64 t64007, .int .i64 x64012001_5, .slice Ao70 t64024.length co70] (0, 0) _ rfl (by refine pB ?_; refine blk_put (cs := #[.int .i64 t64007, .int .i64 x64012001_5, .slice none 0 0]) ?_ 2 _ rfl; refine pB ?_; refine blk_put (cs := #[.int .i64 t64007, .int .i64 0, .slice none 0 0]) ?_ 1 _ rfl; refine pB ?_; refine blk_put (cs := #[.int .i64 0, .int .i64 0, .slice none 0 0]) ?_ 0 _ rfl; refine pB ?_; refine blk_far ?_ NB64001_64011.out _; refine pB ?_; exact BK64001.out) Tryd.underlying25 rfl (by kernel_rfl)) rfl ?_
    exact ⟨_, erf, by (with_reducible repeat (first | apply Kd.R_alloc | apply Kd.R_drewN | apply Kd.R_drew)); exact Kd.R_mono (Kd.R_far (p := ⟨gb64001, 2, none⟩) (Kd.R_far (p := ⟨gb64001, 1, none⟩) (Kd.R_far (p := ⟨gb64001, 0, none⟩) (Kd.R_far (p := ⟨gb64011, 2, none⟩) (Kd.R_types (Kd.R_types HO64026.out BK64011.out (by decide)) BK64001.out (by decide)) (fun _ hk => hk.1.2) (.slice Ao70 t64024.length co70)) (fun _ hk => hk.2) (.int .i64 t64007)) (fun _ hk => hk.2) (.int .i64 x64012001_5)) (fun _ hk => hk.2) (.slice Ao70 t64024.length co70)) (fun _ hk => trivial), pIIsS141 HI0, hbIsS141, by repeat (first | (with_reducible first | exact HK.out | apply KeepBut.set_ | apply keep_drewN | apply keep_drew | apply keep_alloc | refine keep_far ?_ GW64001.out _ | refine keep_far ?_ GW64006.out _ | refine keep_far ?_ GW64011.out _) | exact HK.out)⟩
def edits_sh.l0 : Nat → List Int → List (S25) → Int → List Int → Int → Int → Option ((List (S25)) × Int × Int)
 | 0, _, _, _, _, _, _ => none
 | k + 1, x1, x7, x8, x1000, x1001, x1002 => if x8 > 0 then ((spec_l01Cur_edit.f k x1000 x1001 x1002 x1).bind fun bt83007 => ((spec_EditDo.f k x1 bt83007.1 bt83007.2.1 bt83007.2.2.1).bind fun bt83015 => (if bt83015.2 = true then (if x7.length < 3518437208883 then (edits_sh.l0 k bt83015.1 (x7 ++ [(⟨bt83007.1, bt83007.2.1, bt83007.2.2.1⟩ : S25)]) (wrap64 (x8 - 1)) x1000 bt83007.2.2.2.1 bt83007.2.2.2.2) else (none)) else (edits_sh.l0 k x1 x7 (wrap64 (x8 - 1)) x1000 bt83007.2.2.2.1 bt83007.2.2.2.2)))) else (some (x7, x1001, x1002))
def edits_sh.f (k : Nat) (s0_0 : List Int) (s0_1 : Int) (s0_2 : Int) (l1 : List Int) (a2 : Int) : Option ((List (S25)) × Int × Int) := (spec_l01Cur_size.f s0_0 s0_1 s0_2 a2).bind fun bt83004 => (edits_sh.l0 k l1 (([] : List (S25))) bt83004.1 s0_0 bt83004.2.1 bt83004.2.2)
theorem edits_sh.mono_l : ∀ k, (∀ y0 y1 y2 y3 y4 y5, LeO (edits_sh.l0 k y0 y1 y2 y3 y4 y5) (edits_sh.l0 (k + 1) y0 y1 y2 y3 y4 y5))
 | 0 => fun _ _ _ _ _ _ r h => by simp [edits_sh.l0] at h
 | k + 1 => by
  have ih0 := edits_sh.mono_l k
  ·intro y0 y1 y2 y3 y4 y5
   unfold edits_sh.l0
   repeat' first
   | (with_reducible exact ih0 _ _ _ _ _ _)
   | (with_reducible exact spec_EditDo.mono _ _ _ _ _)
   | (with_reducible exact spec_l01Cur_edit.mono _ _ _ _ _)
   | (with_reducible exact LeO.refl _)
   | (with_reducible exact LeO.none _)
   | (with_reducible refine LeO.ite ?_ ?_)
   | (with_reducible refine LeO.bind ?_ (fun _ => ?_))
   | exact ih0 _ _ _ _ _ _
   | exact spec_EditDo.mono _ _ _ _ _
   | exact spec_l01Cur_edit.mono _ _ _ _ _
   | exact LeO.none _
   | refine LeO.ite ?_ ?_
   | refine LeO.bind ?_ (fun _ => ?_)
theorem edits_sh.mono : ∀ a0 a1 a2 a3 a4 k, LeO (edits_sh.f k a0 a1 a2 a3 a4) (edits_sh.f (k + 1) a0 a1 a2 a3 a4) := by
 intro a0 a1 a2 a3 a4 k
 have ih0 := edits_sh.mono_l k
 unfold edits_sh.f
 repeat' first
   | (with_reducible exact ih0 _ _ _ _ _ _)
   | (with_reducible exact spec_EditDo.mono _ _ _ _ _)
   | (with_reducible exact spec_l01Cur_edit.mono _ _ _ _ _)
   | (with_reducible exact LeO.refl _)
   | (with_reducible exact LeO.none _)
   | (with_reducible refine LeO.ite ?_ ?_)
   | (with_reducible refine LeO.bind ?_ (fun _ => ?_))
   | exact ih0 _ _ _ _ _ _
   | exact spec_EditDo.mono _ _ _ _ _
   | exact spec_l01Cur_edit.mono _ _ _ _ _
   | exact LeO.none _
   | refine LeO.ite ?_ ?_
   | refine LeO.bind ?_ (fun _ => ?_)
set_option maxHeartbeats 8000000 in
set_option maxRecDepth 100000 in
theorem edits_sh.calls (k : Nat) (g : Nat) (s0_0 : List Int) (s0_1 : Int) (s0_2 : Int) (P1_ : Nat → Prop) (A1 : Option Addr) (c1 : Nat) (l1 : List Int) (a2 : Int) (r1 : List (S25)) (r2 : Int) (r3 : Int) (w0 w : World) (hI : IsS141 w0 w g s0_0 s0_1 s0_2) (hB : Below w0.heap.size w0 w) (hs1 : Kd.V (Kd.int .u8) 5 w w.heap.size (fun k_ => P1_ k_ ∧ k_ ≠ g) (.slice A1 l1.length c1) l1) (h : edits_sh.f k s0_0 s0_1 s0_2 l1 a2 = some (r1, r2, r3)) :
  Calls Tryd.prog 82 #[.pointer (some ⟨g, 0, none⟩), .slice A1 l1.length c1, .int .i64 a2] w fun e w' => ∃ v0_ : Value, e = .returned (v0_) ∧ Kd.S k25 25 w' w.heap.size (fun k_ => (w.heap.size ≤ k_)) v0_ r1 ∧ IsS141 w0 w' g s0_0 r2 r3 ∧ Below w0.heap.size w0 w' ∧ KeepBut w w' g none := by
 have hu25 := Tryd.underlying25
 have HO1 := Aside0.mk (show Kd.V (Kd.int .u8) 5 w w.heap.size (fun k_ => (P1_ k_ ∨ w.heap.size ≤ k_) ∧ k_ ≠ g) (.slice A1 l1.length c1) l1 from Kd.V_mono hs1 (fun k_ hk => ⟨.inl hk.1, hk.2⟩))
 have HI0 := Aside0.mk hI
 have HK := Aside0.mk (KeepBut.refl w g none)
 have HL := Aside0.mk hB.size
 clear hI
 have HW0 := Aside0.mk hB.size
 have HB := Aside0.mk hB
 clear hB
 have H : ((spec_l01Cur_size.f s0_0 s0_1 s0_2 a2).bind fun bt83004 => (edits_sh.l0 k l1 (([] : List (S25))) bt83004.1 s0_0 bt83004.2.1 bt83004.2.2)) = some (r1, r2, r3) := h
 clear h
 obtain ⟨y83001, hy83001⟩ : ∃ y_ : List (S25), y_ = (([] : List (S25))) := ⟨_, rfl⟩
 replace H : ((spec_l01Cur_size.f s0_0 s0_1 s0_2 a2).bind fun bt83004 => (edits_sh.l0 k l1 y83001 bt83004.1 s0_0 bt83004.2.1 bt83004.2.2)) = some (r1, r2, r3) := repH hy83001 H
 have Ny83001 := Aside0.mk hy83001
 clear hy83001
 replace H := Option.bind_eq_some_iff.mp H
 obtain ⟨⟨t83004, t83005, t83006⟩, A40, H⟩ := H
 replace H : (edits_sh.l0 k l1 y83001 t83004 s0_0 t83005 t83006) = some (r1, r2, r3) := H
 have A4 := Aside0.mk A40
 clear A40
 have H' := Aside0.mk H
 clear H
 go_enter Tryd.func82, Tryd.ntmps82
 go_wp2_with (first | ((with_reducible refine gate_dst (N := 12) rfl ?_); refine Kd.S_lit k25 _ 25 ?hg (N := 12) ?hd (xs := ([] : List (S25))) (inner := []) (ok := fun _ => True) (okp := fun _ => True) ?hr ?hp (fun _ hk => hk) trivial (Below.refl _ _) (Nat.le_refl _) (by simp) ?_; (case hd => rfl); (case hg => rfl); (case hr => first | (go_simp; done) | (go_simp; rfl)); (case hp => exact (Reps.none _ _)); intro v83002 w5 ho6 hb hg_ hnew_; clear hg_ hnew_; (first | rw [← Ny83001.out] at ho6 | (simp only [Int.reduceToNat] at ho6; rw [← Ny83001.out] at ho6)); have HO83003 := Aside0.mk (Kd.S_lower (Kd.S_newM (M := fun k_ => (w.heap.size ≤ k_)) ho6 (keep_size (w := w) (g := g) (row := none) hkk) (fun k_ h_ => h_)) (keep_size (w := w) (g := g) (row := none) hkk)); replace HO1 := Aside0.mk (Kd.V_elder' (hrnV HO1) (Kd.S_base ho6) hb); replace HK := Aside0.mk (KeepBut.trans hkk (KeepBut.of_below hb g none) (.inl rfl)); replace HB := Aside0.mk (below_step hbIsS141 hb); replace HI0 := Aside0.mk (IsS141.below (pIIsS141 HI0) hb); clear hb ho6) | ((with_reducible refine gate_callee (f := 118) rfl ?_); refine goesM (some 15) Tryd.func118 #[.pointer (some ⟨g, 0, none⟩), .int .i64 a2] ?_; (with_reducible refine (spec_l01Cur_size.calls g s0_0 s0_1 s0_2 a2 t83004 t83005 t83006 w0 _ ?side1 ?side2 A4.out).mono ?_); (case side1 => exact pIIsS141 HI0); (case side2 => exact hbIsS141); rintro e w7 ⟨rfl, hi, hb, hk⟩; refine ⟨_, rfl, ?_⟩; replace HO1 := Aside0.mk (Kd.V_mono (Kd.V_keep (Kd.V_mono (ok := fun k_ => ((((P1_ k_ ∨ w.heap.size ≤ k_)) ∧ k_ ≠ g) ∧ some k_ ≠ (v83002 : Value).ownBlock)) (hrnV HO1) (fun k_ hk_ => (⟨hk_, hk_.1.2⟩ : _ ∧ k_ ≠ g))) hk (fun _ h => h.2)) (fun _ h => h.1)); replace HO83003 := Aside0.mk (Kd.S_mono (Kd.S_keep (IsS141.apartS (show IsS141 w0 _ g s0_0 s0_1 s0_2 from pIIsS141 HI0) (hrnS HO83003) (by decide)) hk (fun _ h => h.2)) (fun _ h => h.1)); replace HK := Aside0.mk (KeepBut.trans hkk hk (.inl rfl)); replace HB := Aside0.mk (hb); replace HI0 := Aside0.mk (hi); (try clear hb); (try clear hb2); (try clear hk); (try clear hi)))
 go_loopg [1, 7, 8] k (fun kq v1 v7 v8 w' => ∃ (x1_1 : List Int) (x7_1 : List (S25)) (x8_1 : Int) (x1001_1 : Int) (x1002_1 : Int), v8 = .int .i64 x8_1 ∧ Aside0 (edits_sh.l0 kq x1_1 x7_1 x8_1 s0_0 x1001_1 x1002_1 = some (r1, r2, r3)) ∧ Aside0 (kq ≤ k) ∧ Aside0 (Kd.V (Kd.int .u8) 5 w' w.heap.size (fun k_ => (P1_ k_ ∨ w.heap.size ≤ k_) ∧ some k_ ≠ (v7 : Value).ownBlock ∧ k_ ≠ g) v1 x1_1) ∧ Aside0 (Kd.S k25 25 w' w.heap.size (fun k_ => (w.heap.size ≤ k_)) v7 x7_1) ∧ Aside0 (IsS141 w0 w' g s0_0 x1001_1 x1002_1) ∧ Aside0 (KeepBut w w' g none) ∧ Aside0 (Below w0.heap.size w0 w'))
 case atStart => exact ⟨(l1), (y83001), (t83004), (t83005), (t83006), rfs, H', ⟨Nat.le_refl _⟩, ⟨by (with_reducible repeat (first | apply Kd.V_alloc | apply Kd.V_drewN | apply Kd.V_drew)); exact Kd.V_mono HO1.out (fun _ hk => ⟨hk.1.1, ⟨hk.2, hk.1.2⟩⟩)⟩, ⟨by (with_reducible repeat (first | apply Kd.S_alloc | apply Kd.S_drewN | apply Kd.S_drew)); exact Kd.S_mono HO83003.out (fun _ hk => hk.1)⟩, ⟨pIIsS141 HI0⟩, ⟨hkk⟩, ⟨hbIsS141⟩⟩
 case round =>
  clear H'
  try clear c1
  try clear p2
  obtain ⟨x1_1, x7_1, x8_1, x1001_1, x1002_1, rfl, HA, HK1, HO_1, HO_7, HI0, HK, HB⟩ := hrel
  cases gk with
  | zero => exact absurd HA.out (by simp [edits_sh.l0])
  | succ k1 =>
   have H := HA.out
   clear HA
   simp only [edits_sh.l0] at H
   by_cases c8 : x8_1 > 0
   ·rw [if_pos c8] at H
    have c8b0 : decide (0 < x8_1) = true := decide_eq_true c8
    clear c8
    replace H := Option.bind_eq_some_iff.mp H
    obtain ⟨⟨t83007, t83008, t83009, t83012, t83013⟩, A90, H⟩ := H
    replace H : ((spec_EditDo.f k1 x1_1 t83007 t83008 t83009).bind fun bt83015 => (if bt83015.2 = true then (if x7_1.length < 3518437208883 then (edits_sh.l0 k1 bt83015.1 (x7_1 ++ [(⟨t83007, t83008, t83009⟩ : S25)]) (wrap64 (x8_1 - 1)) s0_0 t83012 t83013) else (none)) else (edits_sh.l0 k1 x1_1 x7_1 (wrap64 (x8_1 - 1)) s0_0 t83012 t83013))) = some (r1, r2, r3) := H
    have A9 := Aside0.mk A90
    clear A90
    replace H := Option.bind_eq_some_iff.mp H
    obtain ⟨⟨t83015, t83018⟩, A100, H⟩ := H
    replace H : (if t83018 = true then (if x7_1.length < 3518437208883 then (edits_sh.l0 k1 t83015 (x7_1 ++ [(⟨t83007, t83008, t83009⟩ : S25)]) (wrap64 (x8_1 - 1)) s0_0 t83012 t83013) else (none)) else (edits_sh.l0 k1 x1_1 x7_1 (wrap64 (x8_1 - 1)) s0_0 t83012 t83013)) = some (r1, r2, r3) := H
    have A10 := Aside0.mk A100
    clear A100
    by_cases c11 : t83018 = true
    ·subst c11
     have H1 : (if x7_1.length < 3518437208883 then (edits_sh.l0 k1 t83015 (x7_1 ++ [(⟨t83007, t83008, t83009⟩ : S25)]) (wrap64 (x8_1 - 1)) s0_0 t83012 t83013) else (none)) = some (r1, r2, r3) := by rw [if_pos rfl] at H; exact H
     clear H
     have H := H1
     clear H1
     by_cases c12 : x7_1.length < 3518437208883
     ·rw [if_pos c12] at H
      have LMc12 := Aside0.mk c12
      clear c12
      obtain ⟨y83019, hy83019⟩ : ∃ y_ : List (S25), y_ = (x7_1 ++ [(⟨t83007, t83008, t83009⟩ : S25)]) := ⟨_, rfl⟩
      replace H : (edits_sh.l0 k1 t83015 y83019 (wrap64 (x8_1 - 1)) s0_0 t83012 t83013) = some (r1, r2, r3) := repH hy83019 H
      have Ny83019 := Aside0.mk hy83019
      clear hy83019
      have H' := Aside0.mk H
      clear H
      obtain ⟨Ao13, co13, eo13⟩ := Kd.V_slice HO_1.out
      subst eo13
      go_wp2_with (first | ((with_reducible refine gate_callee (f := 63) rfl ?_); refine goesM (some 22) Tryd.func63 #[.pointer (some ⟨g, 0, none⟩), .slice Ao13 x1_1.length co13] ?_; (with_reducible refine (spec_l01Cur_edit.calls k1 g s0_0 x1001_1 x1002_1 _ _ x1_1 t83007 t83008 t83009 t83012 t83013 w0 _ ?side1 ?side2 ?side3 ?side4 ?side5 A9.out).mono ?_); (case side1 => exact pIIsS141 HI0); (case side2 => exact hbIsS141); (case side3 => exact cpl (Kd.V_reads' HO_1.out).2.2); (case side4 => exact (Kd.V_reads' HO_1.out).2.1); (case side5 => intro ad he hl; exact (Kd.F_in (Kd.V_at HO_1.out).2.2 he hl (by decide)).2.2); rintro e w14 ⟨v83010, rfl, ho0, hi, hb, hk⟩; refine ⟨_, rfl, ?_⟩; have HO83011 := Aside0.mk (Kd.R_lower (Kd.R_newM (M := fun k_ => (w.heap.size ≤ k_)) ho0 (keep_size (w := w) (g := g) (row := none) hkk) (fun k_ h_ => h_)) (keep_size (w := w) (g := g) (row := none) hkk)); replace HO_1 := Aside0.mk (Kd.V_mono (Kd.V_told (Kd.V_oldK (Kd.V_mono (ok := fun k_ => (((P1_ k_ ∨ w.heap.size ≤ k_)) ∧ (some k_ ≠ (u7 : Value).ownBlock ∧ k_ ≠ g))) (hrnV HO_1) (fun k_ hk_ => (⟨hk_, hk_.2.2⟩ : _ ∧ k_ ≠ g))) hk) (Kd.R_base ho0)) (fun _ h_ => h_.1)); replace HO_7 := Aside0.mk (Kd.S_mono (Kd.S_told (Kd.S_oldK (IsS141.apartS (show IsS141 w0 _ g s0_0 x1001_1 x1002_1 from pIIsS141 HI0) (hrnS HO_7) (by decide)) hk) (Kd.R_base ho0)) (fun _ h_ => h_.1)); replace HK := Aside0.mk (KeepBut.trans hkk hk (.inl rfl)); replace HB := Aside0.mk (hb); replace HI0 := Aside0.mk (hi); (try clear hb); (try clear hb2); (try clear hk); (try clear hi); (try clear ho0)) | ((with_reducible refine gate_dst (N := 9) rfl ?_); refine boxE 9 #[.int .i64 0, .int .i64 0, .slice none 0 0] 25 ?_; intro gb83014 hg w15 BK83014 hb; have GW83014 := Aside0.mk ((by rw [hg]; exact (keep_size (w := w) (g := g) (row := none) hkk) : w.heap.size ≤ gb83014)); have GE83014 := Aside0.mk ((Nat.le_trans HW0.out (by rw [hg]; exact (keep_size (w := w) (g := g) (row := none) hkk) : w.heap.size ≤ gb83014) : w0.heap.size ≤ gb83014)); have NB0_83014 := Aside0.mk ((by rw [hg]; exact Nat.ne_of_lt (IsS141.lt (show IsS141 w0 _ g s0_0 t83012 t83013 from pIIsS141 HI0)) : g ≠ gb83014)); have NB83014_0 := Aside0.mk ((by rw [hg]; exact Nat.ne_of_gt (IsS141.lt (show IsS141 w0 _ g s0_0 t83012 t83013 from pIIsS141 HI0)) : gb83014 ≠ g)); replace HO_1 := Aside0.mk (Kd.V_below (Kd.V_elderB (hrnV HO_1) gb83014 (Nat.le_of_eq hg.symm)) hb); replace HO_7 := Aside0.mk (Kd.S_below (Kd.S_elderB (hrnS HO_7) gb83014 (Nat.le_of_eq hg.symm)) hb); replace HO83011 := Aside0.mk (Kd.R_below (hrnR HO83011) hb); replace HK := Aside0.mk (KeepBut.trans hkk (KeepBut.of_below hb g none) (.inl rfl)); replace HB := Aside0.mk (below_step hbIsS141 hb); replace HI0 := Aside0.mk (IsS141.below (pIIsS141 HI0) hb); clear hb hg; have hnb16 := NB83014_0.out; have hnc16 := NB0_83014.out; have hcz17_0 : w15.cell? ⟨gb83014, 0, none⟩ = some (.int .i64 0) := (blk_cell BK83014.out 0).trans rfl; have hcz17_1 : w15.cell? ⟨gb83014, 1, none⟩ = some (.int .i64 0) := (blk_cell BK83014.out 1).trans rfl; have hcz17_2 : w15.cell? ⟨gb83014, 2, none⟩ = some (.slice none 0 0) := (blk_cell BK83014.out 2).trans rfl; have hfz17_0 := blk_frozen BK83014.out 0; have hfz17_1 := blk_frozen BK83014.out 1; have hfz17_2 := blk_frozen BK83014.out 2; obtain ⟨Ao18, co18, eo18⟩ := Kd.R_slice HO83011.out; subst eo18) | ((with_reducible refine gate_callee (f := 18) rfl ?_); refine goesM (some 26) Tryd.func18 #[.slice Ao13 x1_1.length co13, .agg #[.int .i64 t83007, .int .i64 t83008, .slice Ao18 t83009.length co18]] ?_; (with_reducible refine (spec_EditDo.calls k1 _ _ x1_1 t83007 t83008 _ _ t83009 t83015 true _ ?side1 ?side2 ?side3 ?side4 A10.out).mono ?_); (case side1 => refine (Kd.V_reads' (e := 5) (base := w.heap.size) (ok := fun k_ => ((((P1_ k_ ∨ w.heap.size ≤ k_) ∧ (some k_ ≠ (u7 : Value).ownBlock ∧ k_ ≠ g)) ∧ some k_ ≠ (.slice Ao18 t83009.length co18 : Value).ownBlock) ∧ k_ ≠ gb83014)) (n := x1_1.length) (c := co13) ?_).2.2; exact (by (with_reducible repeat (first | apply Kd.V_alloc | apply Kd.V_drewN | apply Kd.V_drew)); exact (Kd.V_mono (Kd.V_far (p := ⟨gb83014, 2, none⟩) (Kd.V_far (p := ⟨gb83014, 1, none⟩) (Kd.V_far (p := ⟨gb83014, 0, none⟩) (Kd.V_mono HO_1.out (fun k_ hk => (⟨hk, hk.2⟩ : _ ∧ k_ ≠ gb83014))) (fun _ hk => hk.2) (.int .i64 t83007)) (fun _ hk => hk.2) (.int .i64 t83008)) (fun _ hk => hk.2) (.slice Ao18 t83009.length co18)) (fun _ h_ => h_.1)))); (case side2 => exact (Kd.V_reads' HO_1.out).2.1); (case side3 => refine (Kd.R_reads' (e := 5) (base := w.heap.size) (ok := fun k_ => ((w.heap.size ≤ k_) ∧ True)) (n := t83009.length) (c := co18) ?_).2.2; exact (by (with_reducible repeat (first | apply Kd.R_alloc | apply Kd.R_drewN | apply Kd.R_drew)); exact (Kd.R_mono (Kd.R_far (p := ⟨gb83014, 2, none⟩) (Kd.R_far (p := ⟨gb83014, 1, none⟩) (Kd.R_far (p := ⟨gb83014, 0, none⟩) (Kd.R_types HO83011.out BK83014.out (by decide)) (fun _ hk => hk.2) (.int .i64 t83007)) (fun _ hk => hk.2) (.int .i64 t83008)) (fun _ hk => hk.2) (.slice Ao18 t83009.length co18)) (fun _ h_ => h_.1)))); (case side4 => exact (Kd.R_reads' HO83011.out).2.1); rintro e w19 ⟨v83016, rfl, ho0, hb⟩; refine ⟨_, rfl, ?_⟩; have HO83017 := Aside0.mk (Kd.R_lower (Kd.R_new' (Kd.R_newM (M := fun k_ => (w.heap.size ≤ k_)) ho0 (keep_size (w := w) (g := g) (row := none) (by repeat (first | (with_reducible first | exact HK.out | apply KeepBut.set_ | apply keep_drewN | apply keep_drew | apply keep_alloc | refine keep_far ?_ GW83014.out _) | exact HK.out))) (fun k_ h_ => h_)) (Kd.R_lt (by (with_reducible repeat (first | apply Kd.R_alloc | apply Kd.R_drewN | apply Kd.R_drew)); exact (Kd.R_mono (Kd.R_far (p := ⟨gb83014, 2, none⟩) (Kd.R_far (p := ⟨gb83014, 1, none⟩) (Kd.R_far (p := ⟨gb83014, 0, none⟩) (Kd.R_types HO83011.out BK83014.out (by decide)) (fun _ hk => hk.2) (.int .i64 t83007)) (fun _ hk => hk.2) (.int .i64 t83008)) (fun _ hk => hk.2) (.slice Ao18 t83009.length co18)) (fun _ h_ => h_.1))))) (keep_size (w := w) (g := g) (row := none) (by repeat (first | (with_reducible first | exact HK.out | apply KeepBut.set_ | apply keep_drewN | apply keep_drew | apply keep_alloc | refine keep_far ?_ GW83014.out _) | exact HK.out)))); replace HO_1 := Aside0.mk (Kd.V_elder' (by (with_reducible repeat (first | apply Kd.V_alloc | apply Kd.V_drewN | apply Kd.V_drew)); exact (Kd.V_mono (Kd.V_far (p := ⟨gb83014, 2, none⟩) (Kd.V_far (p := ⟨gb83014, 1, none⟩) (Kd.V_far (p := ⟨gb83014, 0, none⟩) (Kd.V_mono HO_1.out (fun k_ hk => (⟨hk, hk.2⟩ : _ ∧ k_ ≠ gb83014))) (fun _ hk => hk.2) (.int .i64 t83007)) (fun _ hk => hk.2) (.int .i64 t83008)) (fun _ hk => hk.2) (.slice Ao18 t83009.length co18)) (fun _ h_ => h_.1))) (Kd.R_base ho0) hb); replace HO_7 := Aside0.mk (Kd.S_elder' (by (with_reducible repeat (first | apply Kd.S_alloc | apply Kd.S_drewN | apply Kd.S_drew)); exact (Kd.S_mono (Kd.S_far (p := ⟨gb83014, 2, none⟩) (Kd.S_far (p := ⟨gb83014, 1, none⟩) (Kd.S_far (p := ⟨gb83014, 0, none⟩) (Kd.S_mono HO_7.out (fun k_ hk => (⟨hk, hk.2⟩ : _ ∧ k_ ≠ gb83014))) (fun _ hk => hk.2) (.int .i64 t83007)) (fun _ hk => hk.2) (.int .i64 t83008)) (fun _ hk => hk.2) (.slice Ao18 t83009.length co18)) (fun _ h_ => h_.1))) (Kd.R_base ho0) hb); replace HO83011 := Aside0.mk (Kd.R_elder' (by (with_reducible repeat (first | apply Kd.R_alloc | apply Kd.R_drewN | apply Kd.R_drew)); exact (Kd.R_mono (Kd.R_far (p := ⟨gb83014, 2, none⟩) (Kd.R_far (p := ⟨gb83014, 1, none⟩) (Kd.R_far (p := ⟨gb83014, 0, none⟩) (Kd.R_types HO83011.out BK83014.out (by decide)) (fun _ hk => hk.2) (.int .i64 t83007)) (fun _ hk => hk.2) (.int .i64 t83008)) (fun _ hk => hk.2) (.slice Ao18 t83009.length co18)) (fun _ h_ => h_.1))) (Kd.R_base ho0) hb); replace BK83014 := Aside0.mk (blk_below (g := gb83014) (o := .cells #[.int .i64 t83007, .int .i64 t83008, .slice Ao18 t83009.length co18] 25 (0, 0)) (by refine pB ?_; refine blk_put (cs := #[.int .i64 t83007, .int .i64 t83008, .slice none 0 0]) ?_ 2 _ rfl; refine pB ?_; refine blk_put (cs := #[.int .i64 t83007, .int .i64 0, .slice none 0 0]) ?_ 1 _ rfl; refine pB ?_; refine blk_put (cs := #[.int .i64 0, .int .i64 0, .slice none 0 0]) ?_ 0 _ rfl; refine pB ?_; exact BK83014.out) hb); replace HK := Aside0.mk (KeepBut.trans (by repeat (first | (with_reducible first | exact HK.out | apply KeepBut.set_ | apply keep_drewN | apply keep_drew | apply keep_alloc | refine keep_far ?_ GW83014.out _) | exact HK.out)) (KeepBut.of_below hb g none) (.inl rfl)); replace HB := Aside0.mk (below_step hbIsS141 hb); replace HI0 := Aside0.mk (IsS141.below (show IsS141 w0 (((w15.setCell ⟨gb83014, 0, none⟩ (.int .i64 t83007)).setCell ⟨gb83014, 1, none⟩ (.int .i64 t83008)).setCell ⟨gb83014, 2, none⟩ (.slice Ao18 t83009.length co18)) g s0_0 t83012 t83013 from pIIsS141 HI0) hb); (try clear hb); (try clear hb2); (try clear hk); (try clear hi); (try clear ho0); have hcz20_0 : w19.cell? ⟨gb83014, 0, none⟩ = some (.int .i64 t83007) := (blk_cell BK83014.out 0).trans rfl; have hcz20_1 : w19.cell? ⟨gb83014, 1, none⟩ = some (.int .i64 t83008) := (blk_cell BK83014.out 1).trans rfl; have hcz20_2 : w19.cell? ⟨gb83014, 2, none⟩ = some (.slice Ao18 t83009.length co18) := (blk_cell BK83014.out 2).trans rfl; have hfz20_0 := blk_frozen BK83014.out 0; have hfz20_1 := blk_frozen BK83014.out 1; have hfz20_2 := blk_frozen BK83014.out 2) | ((with_reducible refine gate_builtin (b := .append) (xs := #[.tmp 30, .tmp 32]) rfl ?_); at_builtin; refine Kd.S_append k25 w.heap.size rfl (.tmp 30) (.tmp 32) 42 25 (.agg #[(.int .i64 0), (.int .i64 0), (.slice none 0 0)]) 40 rfl Tryd.underlying42 info25 rfl (by decide) (by omega) u7 x7_1 (⟨t83007, t83008, t83009⟩ : S25) [.int .i64 t83007, .int .i64 t83008, .slice Ao18 t83009.length co18] (fun k_ => (w.heap.size ≤ k_) ∧ some k_ ≠ (v83016 : Value).ownBlock ∧ k_ ≠ gb83014) (fun k_ => some k_ = (.slice Ao18 t83009.length co18 : Value).ownBlock) rfl rfl ?aP (fun k_ hk_ => ((Kd.R_mono (ok' := fun k_ => ((fun k_ => (w.heap.size ≤ k_) ∧ some k_ ≠ (v83016 : Value).ownBlock ∧ k_ ≠ gb83014)) k_ ∧ some k_ ≠ (u7 : Value).ownBlock) (Kd.R_types (Kd.R_apart' (HO83011.out) (Kd.S_typed HO_7.out) (by decide)) BK83014.out (by decide)) (fun k_ hk => ⟨⟨hk.1.1.1.1, ⟨hk.1.1.2, hk.2⟩⟩, hk.1.2⟩))).1 k_ hk_.symm) ?aF ?aO (Below.refl _ _) ?aS ?aL ?_; (case aP => exact k25_mkM _ _ _ (⟨t83007, t83008, t83009⟩ : S25) (Kd.R_mono (Kd.R_tight rfl (Kd.R_mono (ok' := fun k_ => ((fun k_ => (w.heap.size ≤ k_) ∧ some k_ ≠ (v83016 : Value).ownBlock ∧ k_ ≠ gb83014)) k_ ∧ some k_ ≠ (u7 : Value).ownBlock) (Kd.R_types (Kd.R_apart' (HO83011.out) (Kd.S_typed HO_7.out) (by decide)) BK83014.out (by decide)) (fun k_ hk => ⟨⟨hk.1.1.1.1, ⟨hk.1.1.2, hk.2⟩⟩, hk.1.2⟩))) (fun _ h_ => h_))); (case aF => exact (fun k_ hk => ⟨(Nat.le_trans (keep_size (w := w) (g := g) (row := none) (by repeat (first | (with_reducible first | exact HK.out | apply KeepBut.set_ | apply keep_drewN | apply keep_drew | apply keep_alloc | refine keep_far ?_ GW83014.out _) | exact HK.out))) hk), Kd.fresh' (Kd.R_lt (hrnR HO83017)) k_ hk, Kd.freshB (g := gb83014) (o := .cells #[.int .i64 t83007, .int .i64 t83008, .slice Ao18 t83009.length co18] 25 (0, 0)) (by refine pB ?_; exact BK83014.out) k_ hk⟩)); (case aO => exact (by (with_reducible repeat (first | apply Kd.S_alloc | apply Kd.S_drewN | apply Kd.S_drew)); exact Kd.S_mono HO_7.out (fun k_ hk => ⟨⟨hk.1.1.1, ⟨hk.2, hk.1.2⟩⟩, fun e_ => hk.1.1.2 e_⟩))); (case aS => exact (keep_size (w := w) (g := g) (row := none) (by repeat (first | (with_reducible first | exact HK.out | apply KeepBut.set_ | apply keep_drewN | apply keep_drew | apply keep_alloc | refine keep_far ?_ GW83014.out _) | exact HK.out)))); (case aL => have := LMc12.out; omega); intro v83020 w21 ho hb hg hat; rw [← Ny83019.out] at ho; have HO83021 := Aside0.mk (ho); replace HO_1 := Aside0.mk (Kd.V_afterv (ok := (fun k_ => (P1_ k_ ∨ w.heap.size ≤ k_) ∧ some k_ ≠ (.slice Ao18 t83009.length co18 : Value).ownBlock ∧ some k_ ≠ (v83016 : Value).ownBlock ∧ k_ ≠ g ∧ k_ ≠ gb83014)) (by (with_reducible repeat (first | apply Kd.V_alloc | apply Kd.V_drewN | apply Kd.V_drew)); exact Kd.V_mono HO_1.out (fun _ hk => ⟨⟨hk.1.1.1.1, ⟨hk.1.1.2, ⟨hk.2, ⟨hk.1.1.1.2.2, hk.1.2⟩⟩⟩⟩, hk.1.1.1.2.1⟩)) hg hat); replace BK83014 := Aside0.mk (blk_grown (g := gb83014) (o := .cells #[.int .i64 t83007, .int .i64 t83008, .slice Ao18 t83009.length co18] 25 (0, 0)) (by refine pB ?_; exact BK83014.out) hg (Kd.S_away HO_7.out (fun _ hk => hk.1.2))); replace HO83017 := Aside0.mk (Kd.R_over' (hrnR HO83017) (Kd.S_typed (hrnS HO_7)) (by decide) hg); replace HB := Aside0.mk (below_weaken hbIsS141 HL.out hb); replace HI0 := Aside0.mk (IsS141.grown (pIIsS141 HI0) hg (IsS141.own_neS HI0.out HO_7.out (by decide))); replace HK := Aside0.mk (KeepBut.trans (by repeat (first | (with_reducible first | exact HK.out | apply KeepBut.set_ | apply keep_drewN | apply keep_drew | apply keep_alloc | refine keep_far ?_ GW83014.out _) | exact HK.out)) (KeepBut.of_grown hg g) (Kd.S_base2 HO_7.out)); clear HO_7 HO83011; clear ho hb hg hat))
      go_roundg k1
      case measure => have := HK1.out; omega
      case rel => exact ⟨(t83015), (y83019), (wrap64 (x8_1 - 1)), (t83012), (t83013), rfs, H', ⟨by have := HK1.out; omega⟩, ⟨Kd.V_mono (ok := fun k_ => (w.heap.size ≤ k_) ∧ (some k_ ≠ (v83020 : Value).ownBlock ∧ k_ ≠ g)) (Kd.R_V (by (with_reducible repeat (first | apply Kd.R_alloc | apply Kd.R_drewN | apply Kd.R_drew)); exact Kd.R_mono (IsS141.apart HI0.out (Kd.R_apart' HO83017.out (Kd.S_typed HO83021.out) (by decide)) (by decide)) (fun _ hk => ⟨hk.1.1.1.1, ⟨hk.1.2, hk.2⟩⟩))) (fun k_ hk => by first | exact ⟨(.inr (hk.1)), hk.2⟩ | exact (.inr (hk)))⟩, ⟨by (with_reducible repeat (first | apply Kd.S_alloc | apply Kd.S_drewN | apply Kd.S_drew)); exact Kd.S_mono HO83021.out (fun _ hk => hk.1)⟩, ⟨pIIsS141 HI0⟩, ⟨by repeat (first | (with_reducible first | exact HK.out | apply KeepBut.set_ | apply keep_drewN | apply keep_drew | apply keep_alloc | refine keep_far ?_ GW83014.out _) | exact HK.out)⟩, ⟨hbIsS141⟩⟩
     ·rw [if_neg c12] at H
      exact absurd H (by simp)
    ·replace c11 := Bool.eq_false_iff.mpr c11
     subst c11
     have H1 : (edits_sh.l0 k1 x1_1 x7_1 (wrap64 (x8_1 - 1)) s0_0 t83012 t83013) = some (r1, r2, r3) := by rw [if_neg (show ¬ (false = true) by decide)] at H; exact H
     clear H
     have H := H1
     clear H1
     have H' := Aside0.mk H
     clear H
     obtain ⟨Ao22, co22, eo22⟩ := Kd.V_slice HO_1.out
     subst eo22
     go_wp2_with (first | ((with_reducible refine gate_callee (f := 63) rfl ?_); refine goesM (some 22) Tryd.func63 #[.pointer (some ⟨g, 0, none⟩), .slice Ao22 x1_1.length co22] ?_; (with_reducible refine (spec_l01Cur_edit.calls k1 g s0_0 x1001_1 x1002_1 _ _ x1_1 t83007 t83008 t83009 t83012 t83013 w0 _ ?side1 ?side2 ?side3 ?side4 ?side5 A9.out).mono ?_); (case side1 => exact pIIsS141 HI0); (case side2 => exact hbIsS141); (case side3 => exact cpl (Kd.V_reads' HO_1.out).2.2); (case side4 => exact (Kd.V_reads' HO_1.out).2.1); (case side5 => intro ad he hl; exact (Kd.F_in (Kd.V_at HO_1.out).2.2 he hl (by decide)).2.2); rintro e w23 ⟨v83010, rfl, ho0, hi, hb, hk⟩; refine ⟨_, rfl, ?_⟩; have HO83011 := Aside0.mk (Kd.R_lower (Kd.R_newM (M := fun k_ => (w.heap.size ≤ k_)) ho0 (keep_size (w := w) (g := g) (row := none) hkk) (fun k_ h_ => h_)) (keep_size (w := w) (g := g) (row := none) hkk)); replace HO_1 := Aside0.mk (Kd.V_mono (Kd.V_told (Kd.V_oldK (Kd.V_mono (ok := fun k_ => (((P1_ k_ ∨ w.heap.size ≤ k_)) ∧ (some k_ ≠ (u7 : Value).ownBlock ∧ k_ ≠ g))) (hrnV HO_1) (fun k_ hk_ => (⟨hk_, hk_.2.2⟩ : _ ∧ k_ ≠ g))) hk) (Kd.R_base ho0)) (fun _ h_ => h_.1)); replace HO_7 := Aside0.mk (Kd.S_mono (Kd.S_told (Kd.S_oldK (IsS141.apartS (show IsS141 w0 _ g s0_0 x1001_1 x1002_1 from pIIsS141 HI0) (hrnS HO_7) (by decide)) hk) (Kd.R_base ho0)) (fun _ h_ => h_.1)); replace HK := Aside0.mk (KeepBut.trans hkk hk (.inl rfl)); replace HB := Aside0.mk (hb); replace HI0 := Aside0.mk (hi); (try clear hb); (try clear hb2); (try clear hk); (try clear hi); (try clear ho0)) | ((with_reducible refine gate_dst (N := 9) rfl ?_); refine boxE 9 #[.int .i64 0, .int .i64 0, .slice none 0 0] 25 ?_; intro gb83014 hg w24 BK83014 hb; have GW83014 := Aside0.mk ((by rw [hg]; exact (keep_size (w := w) (g := g) (row := none) hkk) : w.heap.size ≤ gb83014)); have GE83014 := Aside0.mk ((Nat.le_trans HW0.out (by rw [hg]; exact (keep_size (w := w) (g := g) (row := none) hkk) : w.heap.size ≤ gb83014) : w0.heap.size ≤ gb83014)); have NB0_83014 := Aside0.mk ((by rw [hg]; exact Nat.ne_of_lt (IsS141.lt (show IsS141 w0 _ g s0_0 t83012 t83013 from pIIsS141 HI0)) : g ≠ gb83014)); have NB83014_0 := Aside0.mk ((by rw [hg]; exact Nat.ne_of_gt (IsS141.lt (show IsS141 w0 _ g s0_0 t83012 t83013 from pIIsS141 HI0)) : gb83014 ≠ g)); replace HO_1 := Aside0.mk (Kd.V_below (Kd.V_elderB (hrnV HO_1) gb83014 (Nat.le_of_eq hg.symm)) hb); replace HO_7 := Aside0.mk (Kd.S_below (Kd.S_elderB (hrnS HO_7) gb83014 (Nat.le_of_eq hg.symm)) hb); replace HO83011 := Aside0.mk (Kd.R_below (hrnR HO83011) hb); replace HK := Aside0.mk (KeepBut.trans hkk (KeepBut.of_below hb g none) (.inl rfl)); replace HB := Aside0.mk (below_step hbIsS141 hb); replace HI0 := Aside0.mk (IsS141.below (pIIsS141 HI0) hb); clear hb hg; have hnb25 := NB83014_0.out; have hnc25 := NB0_83014.out; have hcz26_0 : w24.cell? ⟨gb83014, 0, none⟩ = some (.int .i64 0) := (blk_cell BK83014.out 0).trans rfl; have hcz26_1 : w24.cell? ⟨gb83014, 1, none⟩ = some (.int .i64 0) := (blk_cell BK83014.out 1).trans rfl; have hcz26_2 : w24.cell? ⟨gb83014, 2, none⟩ = some (.slice none 0 0) := (blk_cell BK83014.out 2).trans rfl; have hfz26_0 := blk_frozen BK83014.out 0; have hfz26_1 := blk_frozen BK83014.out 1; have hfz26_2 := blk_frozen BK83014.out 2; obtain ⟨Ao27, co27, eo27⟩ := Kd.R_slice HO83011.out; subst eo27) | ((with_reducible refine gate_callee (f := 18) rfl ?_); refine goesM (some 26) Tryd.func18 #[.slice Ao22 x1_1.length co22, .agg #[.int .i64 t83007, .int .i64 t83008, .slice Ao27 t83009.length co27]] ?_; (with_reducible refine (spec_EditDo.calls k1 _ _ x1_1 t83007 t83008 _ _ t83009 t83015 false _ ?side1 ?side2 ?side3 ?side4 A10.out).mono ?_); (case side1 => refine (Kd.V_reads' (e := 5) (base := w.heap.size) (ok := fun k_ => ((((P1_ k_ ∨ w.heap.size ≤ k_) ∧ (some k_ ≠ (u7 : Value).ownBlock ∧ k_ ≠ g)) ∧ some k_ ≠ (.slice Ao27 t83009.length co27 : Value).ownBlock) ∧ k_ ≠ gb83014)) (n := x1_1.length) (c := co22) ?_).2.2; exact (by (with_reducible repeat (first | apply Kd.V_alloc | apply Kd.V_drewN | apply Kd.V_drew)); exact (Kd.V_mono (Kd.V_far (p := ⟨gb83014, 2, none⟩) (Kd.V_far (p := ⟨gb83014, 1, none⟩) (Kd.V_far (p := ⟨gb83014, 0, none⟩) (Kd.V_mono HO_1.out (fun k_ hk => (⟨hk, hk.2⟩ : _ ∧ k_ ≠ gb83014))) (fun _ hk => hk.2) (.int .i64 t83007)) (fun _ hk => hk.2) (.int .i64 t83008)) (fun _ hk => hk.2) (.slice Ao27 t83009.length co27)) (fun _ h_ => h_.1)))); (case side2 => exact (Kd.V_reads' HO_1.out).2.1); (case side3 => refine (Kd.R_reads' (e := 5) (base := w.heap.size) (ok := fun k_ => ((w.heap.size ≤ k_) ∧ True)) (n := t83009.length) (c := co27) ?_).2.2; exact (by (with_reducible repeat (first | apply Kd.R_alloc | apply Kd.R_drewN | apply Kd.R_drew)); exact (Kd.R_mono (Kd.R_far (p := ⟨gb83014, 2, none⟩) (Kd.R_far (p := ⟨gb83014, 1, none⟩) (Kd.R_far (p := ⟨gb83014, 0, none⟩) (Kd.R_types HO83011.out BK83014.out (by decide)) (fun _ hk => hk.2) (.int .i64 t83007)) (fun _ hk => hk.2) (.int .i64 t83008)) (fun _ hk => hk.2) (.slice Ao27 t83009.length co27)) (fun _ h_ => h_.1)))); (case side4 => exact (Kd.R_reads' HO83011.out).2.1); rintro e w28 ⟨v83016, rfl, ho0, hb⟩; refine ⟨_, rfl, ?_⟩; have HO83017 := Aside0.mk (Kd.R_lower (Kd.R_new' (Kd.R_newM (M := fun k_ => (w.heap.size ≤ k_)) ho0 (keep_size (w := w) (g := g) (row := none) (by repeat (first | (with_reducible first | exact HK.out | apply KeepBut.set_ | apply keep_drewN | apply keep_drew | apply keep_alloc | refine keep_far ?_ GW83014.out _) | exact HK.out))) (fun k_ h_ => h_)) (Kd.R_lt (by (with_reducible repeat (first | apply Kd.R_alloc | apply Kd.R_drewN | apply Kd.R_drew)); exact (Kd.R_mono (Kd.R_far (p := ⟨gb83014, 2, none⟩) (Kd.R_far (p := ⟨gb83014, 1, none⟩) (Kd.R_far (p := ⟨gb83014, 0, none⟩) (Kd.R_types HO83011.out BK83014.out (by decide)) (fun _ hk => hk.2) (.int .i64 t83007)) (fun _ hk => hk.2) (.int .i64 t83008)) (fun _ hk => hk.2) (.slice Ao27 t83009.length co27)) (fun _ h_ => h_.1))))) (keep_size (w := w) (g := g) (row := none) (by repeat (first | (with_reducible first | exact HK.out | apply KeepBut.set_ | apply keep_drewN | apply keep_drew | apply keep_alloc | refine keep_far ?_ GW83014.out _) | exact HK.out)))); replace HO_1 := Aside0.mk (Kd.V_elder' (by (with_reducible repeat (first | apply Kd.V_alloc | apply Kd.V_drewN | apply Kd.V_drew)); exact (Kd.V_mono (Kd.V_far (p := ⟨gb83014, 2, none⟩) (Kd.V_far (p := ⟨gb83014, 1, none⟩) (Kd.V_far (p := ⟨gb83014, 0, none⟩) (Kd.V_mono HO_1.out (fun k_ hk => (⟨hk, hk.2⟩ : _ ∧ k_ ≠ gb83014))) (fun _ hk => hk.2) (.int .i64 t83007)) (fun _ hk => hk.2) (.int .i64 t83008)) (fun _ hk => hk.2) (.slice Ao27 t83009.length co27)) (fun _ h_ => h_.1))) (Kd.R_base ho0) hb); replace HO_7 := Aside0.mk (Kd.S_elder' (by (with_reducible repeat (first | apply Kd.S_alloc | apply Kd.S_drewN | apply Kd.S_drew)); exact (Kd.S_mono (Kd.S_far (p := ⟨gb83014, 2, none⟩) (Kd.S_far (p := ⟨gb83014, 1, none⟩) (Kd.S_far (p := ⟨gb83014, 0, none⟩) (Kd.S_mono HO_7.out (fun k_ hk => (⟨hk, hk.2⟩ : _ ∧ k_ ≠ gb83014))) (fun _ hk => hk.2) (.int .i64 t83007)) (fun _ hk => hk.2) (.int .i64 t83008)) (fun _ hk => hk.2) (.slice Ao27 t83009.length co27)) (fun _ h_ => h_.1))) (Kd.R_base ho0) hb); replace HO83011 := Aside0.mk (Kd.R_elder' (by (with_reducible repeat (first | apply Kd.R_alloc | apply Kd.R_drewN | apply Kd.R_drew)); exact (Kd.R_mono (Kd.R_far (p := ⟨gb83014, 2, none⟩) (Kd.R_far (p := ⟨gb83014, 1, none⟩) (Kd.R_far (p := ⟨gb83014, 0, none⟩) (Kd.R_types HO83011.out BK83014.out (by decide)) (fun _ hk => hk.2) (.int .i64 t83007)) (fun _ hk => hk.2) (.int .i64 t83008)) (fun _ hk => hk.2) (.slice Ao27 t83009.length co27)) (fun _ h_ => h_.1))) (Kd.R_base ho0) hb); replace BK83014 := Aside0.mk (blk_below (g := gb83014) (o := .cells #[.int .i64 t83007, .int .i64 t83008, .slice Ao27 t83009.length co27] 25 (0, 0)) (by refine pB ?_; refine blk_put (cs := #[.int .i64 t83007, .int .i64 t83008, .slice none 0 0]) ?_ 2 _ rfl; refine pB ?_; refine blk_put (cs := #[.int .i64 t83007, .int .i64 0, .slice none 0 0]) ?_ 1 _ rfl; refine pB ?_; refine blk_put (cs := #[.int .i64 0, .int .i64 0, .slice none 0 0]) ?_ 0 _ rfl; refine pB ?_; exact BK83014.out) hb); replace HK := Aside0.mk (KeepBut.trans (by repeat (first | (with_reducible first | exact HK.out | apply KeepBut.set_ | apply keep_drewN | apply keep_drew | apply keep_alloc | refine keep_far ?_ GW83014.out _) | exact HK.out)) (KeepBut.of_below hb g none) (.inl rfl)); replace HB := Aside0.mk (below_step hbIsS141 hb); replace HI0 := Aside0.mk (IsS141.below (show IsS141 w0 (((w24.setCell ⟨gb83014, 0, none⟩ (.int .i64 t83007)).setCell ⟨gb83014, 1, none⟩ (.int .i64 t83008)).setCell ⟨gb83014, 2, none⟩ (.slice Ao27 t83009.length co27)) g s0_0 t83012 t83013 from pIIsS141 HI0) hb); (try clear hb); (try clear hb2); (try clear hk); (try clear hi); (try clear ho0)))
     go_roundg k1
     case measure => have := HK1.out; omega
     case rel => exact ⟨(x1_1), (x7_1), (wrap64 (x8_1 - 1)), (t83012), (t83013), rfs, H', ⟨by have := HK1.out; omega⟩, ⟨by (with_reducible repeat (first | apply Kd.V_alloc | apply Kd.V_drewN | apply Kd.V_drew)); exact Kd.V_mono HO_1.out (fun _ hk => ⟨hk.1.1.1.1, ⟨hk.1.1.1.2.1, hk.1.1.1.2.2⟩⟩)⟩, ⟨by (with_reducible repeat (first | apply Kd.S_alloc | apply Kd.S_drewN | apply Kd.S_drew)); exact Kd.S_mono HO_7.out (fun _ hk => hk.1.1.1)⟩, ⟨pIIsS141 HI0⟩, ⟨by repeat (first | (with_reducible first | exact HK.out | apply KeepBut.set_ | apply keep_drewN | apply keep_drew | apply keep_alloc | refine keep_far ?_ GW83014.out _) | exact HK.out)⟩, ⟨hbIsS141⟩⟩
   ·rw [if_neg c8] at H
    have c8b0 : decide (0 < x8_1) = false := decide_eq_false c8
    clear c8
    simp only [Option.some.injEq, Prod.mk.injEq] at H
    obtain ⟨rfl, rfl, rfl⟩ := H
    go_wp2
    go_ret
    exact ⟨_, erf, (hrnS HO_7), pIIsS141 HI0, hbIsS141, hkk⟩
end Go.Proofs.YteapbiiffcchbaaDoor.P
namespace Go.Proofs.YteapbiiffcchbaaDoor.G
open Go.RowKit Go.Proofs.YteapbiiffcchbaaDoorW.PrintWords Go.Proofs.YteapbiiffcchbaaDoorW.PrintLast Go.Proofs.YteapbiiffcchbaaDoorW.PrintMore Go.Proofs.YteapbiiffcchbaaDoor.P
set_option linter.unusedVariables false
def spec_l01Cur_edits.f (k : Nat) (s0_0 : List Int) (s0_1 : Int) (s0_2 : Int) (l1 : List Int) (a2 : Int) : Option (List S25 × Int × Int) := edits_sh.f k s0_0 s0_1 s0_2 l1 a2
theorem F_bytes {w : World} {A : Option Addr} {l : List Int} (h : Kd.C (Kd.int .u8) w A l.length l) : Kd.F (Kd.int .u8) w (fun b => ∃ ad, A = some ad ∧ 0 < l.length ∧ b = ad.block) A l.length l := by
  intro W' hW
  refine ⟨h.1, h.2.1, fun hn => ?_⟩
  obtain ⟨ad, hA, hc⟩ := h.2.2 hn
  subst hA
  have hlt : ad.block < w.heap.size := Kd.C_lt h hn (by decide)
  have hb := hW ad.block ⟨ad, rfl, hn, rfl⟩ hlt
  refine ⟨ad, rfl, fun j x hx => ?_⟩
  obtain ⟨c, h1, h2, h3⟩ := hc j x hx
  refine ⟨c, h1, h2, fun q u hq => ?_⟩
  have := h3 q u hq
  unfold World.cell? at this ⊢
  rw [add_block] at this ⊢
  rw [hb]
  exact this
theorem spec_l01Cur_edits.calls (k : Nat) (g : Nat) (s0_0 : List Int) (s0_1 : Int) (s0_2 : Int) (A1 : Option Addr) (c1 : Nat) (l1 : List Int) (a2 : Int) (r1 : List S25) (r2 : Int) (r3 : Int) (w0 w : World) (hI : IsS141 w0 w g s0_0 s0_1 s0_2) (hB : Below w0.heap.size w0 w) (hr1 : Kd.C (Kd.int .u8) w A1 l1.length l1) (hc1 : l1.length ≤ c1) (hf1 : ∀ ad, A1 = some ad → 0 < l1.length → ad.block ≠ g) (h : spec_l01Cur_edits.f k s0_0 s0_1 s0_2 l1 a2 = some (r1, r2, r3)) :
    Calls Tryd.prog 82 #[.pointer (some ⟨g, 0, none⟩), .slice A1 l1.length c1, .int .i64 a2] w fun e w' => ∃ v0_ : Value, e = .returned (v0_) ∧ Kd.S k25 25 w' w.heap.size (fun _ => True) v0_ r1 ∧ IsS141 w0 w' g s0_0 r2 r3 ∧ Below w0.heap.size w0 w' ∧ KeepBut w w' g none := by
  refine (edits_sh.calls k g s0_0 s0_1 s0_2 (fun b => ∃ ad, A1 = some ad ∧ 0 < l1.length ∧ b = ad.block) A1 c1 l1 a2 r1 r2 r3 w0 w hI hB (Kd.V_mk hc1 (Kd.F_mono (F_bytes hr1) ?_)) h).mono ?_
  · rintro b ⟨ad, h1, h2, rfl⟩
    exact ⟨⟨ad, h1, h2, rfl⟩, hf1 ad h1 h2⟩
  · rintro e w' ⟨v0, he, hS, hI', hB', hK⟩
    exact ⟨v0, he, Kd.S_mono hS (fun _ _ => trivial), hI', hB', hK⟩
end Go.Proofs.YteapbiiffcchbaaDoor.G
namespace Go.Proofs.YteapbiiffcchbaaDoor.P
open Go.Proofs.YteapbiiffcchbaaDoor.G
open Go.RowKit Go.Proofs.YteapbiiffcchbaaDoorW.PrintWords Go.Proofs.YteapbiiffcchbaaDoorW.PrintLast Go.Proofs.YteapbiiffcchbaaDoorW.PrintMore
attribute [local go_sem] max2_int min2_int max_two min_two max_three min_three max_four min_four
set_option linter.unusedVariables false
set_option linter.unusedSimpArgs false
def spec_l01Cur_badText.f (k : Nat) (s0_0 : List Int) (s0_1 : Int) (s0_2 : Int) (a1 : Int) : Option (List Int × Int × Int) := (spec_l01Cur_text.f k s0_0 s0_1 s0_2 a1).bind fun bt72001 => ((spec_l01Cur_pick.f s0_0 bt72001.2.1 bt72001.2.2 9).bind fun bt72006 => (if bt72006.1 = 0 then (if (bt72001.1.length : Int) > 0 then ((spec_l01Cur_pick.f s0_0 bt72006.2.1 bt72006.2.2 (mn 256 (bt72001.1.length : Int))).bind fun bt72009 => ((spec_l01Cur_pick.f s0_0 bt72009.2.1 bt72009.2.2 256).bind fun bt72012 => ((some (([128, 192, 193, 224, 237, 240, 244, 245, 255, bt72012.1] : List Int) : List Int)).bind fun y72015 => ((spec_l01Cur_pick.f s0_0 bt72012.2.1 bt72012.2.2 10).bind fun bt72018 => (if 0 ≤ bt72018.1 then (if bt72018.1 < (y72015.length : Int) then (if 0 ≤ bt72009.1 then (if bt72009.1 < (bt72001.1.length : Int) then (some ((bt72001.1.set (bt72009.1 : Int).toNat ((rd y72015 bt72018.1) % 256)), bt72018.2.1, bt72018.2.2)) else (none)) else (none)) else (none)) else (none)))))) else (some (bt72001.1, bt72006.2.1, bt72006.2.2))) else (if bt72006.1 = 1 then ((some (([195, 226, 240] : List Int) : List Int)).bind fun y72023 => ((spec_l01Cur_pick.f s0_0 bt72006.2.1 bt72006.2.2 3).bind fun bt72026 => (if 0 ≤ bt72026.1 then (if bt72026.1 < (y72023.length : Int) then (if bt72001.1.length < 140737488355328 then (some ((bt72001.1 ++ [rd y72023 bt72026.1]), bt72026.2.1, bt72026.2.2)) else (none)) else (none)) else (none)))) else (if bt72006.1 = 2 then ((spec_l01Cur_once.f s0_0 bt72006.2.1 bt72006.2.2 5).bind fun bt72033 => (if bt72033.1 = true then ((spec_l01Cur_pick.f s0_0 bt72033.2.1 bt72033.2.2 2).bind fun bt72036 => (if 0 ≤ (wrap64 (400 + bt72036.1)) then (if (wrap64 (400 + bt72036.1) : Int).toNat ≤ 281474976710656 then (some ((List.replicate (wrap64 (400 + bt72036.1) : Int).toNat 0), bt72036.2.1, bt72036.2.2)) else (none)) else (none))) else (some (bt72001.1, bt72033.2.1, bt72033.2.2)))) else (some (bt72001.1, bt72006.2.1, bt72006.2.2))))))
set_option maxHeartbeats 8000000 in
set_option maxRecDepth 100000 in
theorem spec_l01Cur_badText.calls (k : Nat) (g : Nat) (s0_0 : List Int) (s0_1 : Int) (s0_2 : Int) (a1 : Int) (r1 : List Int) (r2 : Int) (r3 : Int) (w0 w : World) (hI : IsS141 w0 w g s0_0 s0_1 s0_2) (hB : Below w0.heap.size w0 w) (h : spec_l01Cur_badText.f k s0_0 s0_1 s0_2 a1 = some (r1, r2, r3)) :
  Calls Tryd.prog 71 #[.pointer (some ⟨g, 0, none⟩), .int .i64 a1] w fun e w' => ∃ v0_ : Value, e = .returned (v0_) ∧ Kd.R (Kd.int .u8) 5 w' w.heap.size (fun _ => True) v0_ r1 ∧ IsS141 w0 w' g s0_0 r2 r3 ∧ Below w0.heap.size w0 w' ∧ KeepBut w w' g none := by
 have HI0 := Aside0.mk hI
 have HK := Aside0.mk (KeepBut.refl w g none)
 have HL := Aside0.mk hB.size
 clear hI
 have HW0 := Aside0.mk hB.size
 have HB := Aside0.mk hB
 clear hB
 have H : ((spec_l01Cur_text.f k s0_0 s0_1 s0_2 a1).bind fun bt72001 => ((spec_l01Cur_pick.f s0_0 bt72001.2.1 bt72001.2.2 9).bind fun bt72006 => (if bt72006.1 = 0 then (if (bt72001.1.length : Int) > 0 then ((spec_l01Cur_pick.f s0_0 bt72006.2.1 bt72006.2.2 (mn 256 (bt72001.1.length : Int))).bind fun bt72009 => ((spec_l01Cur_pick.f s0_0 bt72009.2.1 bt72009.2.2 256).bind fun bt72012 => ((some (([128, 192, 193, 224, 237, 240, 244, 245, 255, bt72012.1] : List Int) : List Int)).bind fun y72015 => ((spec_l01Cur_pick.f s0_0 bt72012.2.1 bt72012.2.2 10).bind fun bt72018 => (if 0 ≤ bt72018.1 then (if bt72018.1 < (y72015.length : Int) then (if 0 ≤ bt72009.1 then (if bt72009.1 < (bt72001.1.length : Int) then (some ((bt72001.1.set (bt72009.1 : Int).toNat ((rd y72015 bt72018.1) % 256)), bt72018.2.1, bt72018.2.2)) else (none)) else (none)) else (none)) else (none)))))) else (some (bt72001.1, bt72006.2.1, bt72006.2.2))) else (if bt72006.1 = 1 then ((some (([195, 226, 240] : List Int) : List Int)).bind fun y72023 => ((spec_l01Cur_pick.f s0_0 bt72006.2.1 bt72006.2.2 3).bind fun bt72026 => (if 0 ≤ bt72026.1 then (if bt72026.1 < (y72023.length : Int) then (if bt72001.1.length < 140737488355328 then (some ((bt72001.1 ++ [rd y72023 bt72026.1]), bt72026.2.1, bt72026.2.2)) else (none)) else (none)) else (none)))) else (if bt72006.1 = 2 then ((spec_l01Cur_once.f s0_0 bt72006.2.1 bt72006.2.2 5).bind fun bt72033 => (if bt72033.1 = true then ((spec_l01Cur_pick.f s0_0 bt72033.2.1 bt72033.2.2 2).bind fun bt72036 => (if 0 ≤ (wrap64 (400 + bt72036.1)) then (if (wrap64 (400 + bt72036.1) : Int).toNat ≤ 281474976710656 then (some ((List.replicate (wrap64 (400 + bt72036.1) : Int).toNat 0), bt72036.2.1, bt72036.2.2)) else (none)) else (none))) else (some (bt72001.1, bt72033.2.1, bt72033.2.2)))) else (some (bt72001.1, bt72006.2.1, bt72006.2.2))))))) = some (r1, r2, r3) := h
 clear h
 replace H := Option.bind_eq_some_iff.mp H
 obtain ⟨⟨t72001, t72004, t72005⟩, A30, H⟩ := H
 replace H : ((spec_l01Cur_pick.f s0_0 t72004 t72005 9).bind fun bt72006 => (if bt72006.1 = 0 then (if (t72001.length : Int) > 0 then ((spec_l01Cur_pick.f s0_0 bt72006.2.1 bt72006.2.2 (mn 256 (t72001.length : Int))).bind fun bt72009 => ((spec_l01Cur_pick.f s0_0 bt72009.2.1 bt72009.2.2 256).bind fun bt72012 => ((some (([128, 192, 193, 224, 237, 240, 244, 245, 255, bt72012.1] : List Int) : List Int)).bind fun y72015 => ((spec_l01Cur_pick.f s0_0 bt72012.2.1 bt72012.2.2 10).bind fun bt72018 => (if 0 ≤ bt72018.1 then (if bt72018.1 < (y72015.length : Int) then (if 0 ≤ bt72009.1 then (if bt72009.1 < (t72001.length : Int) then (some ((t72001.set (bt72009.1 : Int).toNat ((rd y72015 bt72018.1) % 256)), bt72018.2.1, bt72018.2.2)) else (none)) else (none)) else (none)) else (none)))))) else (some (t72001, bt72006.2.1, bt72006.2.2))) else (if bt72006.1 = 1 then ((some (([195, 226, 240] : List Int) : List Int)).bind fun y72023 => ((spec_l01Cur_pick.f s0_0 bt72006.2.1 bt72006.2.2 3).bind fun bt72026 => (if 0 ≤ bt72026.1 then (if bt72026.1 < (y72023.length : Int) then (if t72001.length < 140737488355328 then (some ((t72001 ++ [rd y72023 bt72026.1]), bt72026.2.1, bt72026.2.2)) else (none)) else (none)) else (none)))) else (if bt72006.1 = 2 then ((spec_l01Cur_once.f s0_0 bt72006.2.1 bt72006.2.2 5).bind fun bt72033 => (if bt72033.1 = true then ((spec_l01Cur_pick.f s0_0 bt72033.2.1 bt72033.2.2 2).bind fun bt72036 => (if 0 ≤ (wrap64 (400 + bt72036.1)) then (if (wrap64 (400 + bt72036.1) : Int).toNat ≤ 281474976710656 then (some ((List.replicate (wrap64 (400 + bt72036.1) : Int).toNat 0), bt72036.2.1, bt72036.2.2)) else (none)) else (none))) else (some (t72001, bt72033.2.1, bt72033.2.2)))) else (some (t72001, bt72006.2.1, bt72006.2.2)))))) = some (r1, r2, r3) := H
 have A3 := Aside0.mk A30
 clear A30
 replace H := Option.bind_eq_some_iff.mp H
 obtain ⟨⟨t72006, t72007, t72008⟩, A40, H⟩ := H
 replace H : (if t72006 = 0 then (if (t72001.length : Int) > 0 then ((spec_l01Cur_pick.f s0_0 t72007 t72008 (mn 256 (t72001.length : Int))).bind fun bt72009 => ((spec_l01Cur_pick.f s0_0 bt72009.2.1 bt72009.2.2 256).bind fun bt72012 => ((some (([128, 192, 193, 224, 237, 240, 244, 245, 255, bt72012.1] : List Int) : List Int)).bind fun y72015 => ((spec_l01Cur_pick.f s0_0 bt72012.2.1 bt72012.2.2 10).bind fun bt72018 => (if 0 ≤ bt72018.1 then (if bt72018.1 < (y72015.length : Int) then (if 0 ≤ bt72009.1 then (if bt72009.1 < (t72001.length : Int) then (some ((t72001.set (bt72009.1 : Int).toNat ((rd y72015 bt72018.1) % 256)), bt72018.2.1, bt72018.2.2)) else (none)) else (none)) else (none)) else (none)))))) else (some (t72001, t72007, t72008))) else (if t72006 = 1 then ((some (([195, 226, 240] : List Int) : List Int)).bind fun y72023 => ((spec_l01Cur_pick.f s0_0 t72007 t72008 3).bind fun bt72026 => (if 0 ≤ bt72026.1 then (if bt72026.1 < (y72023.length : Int) then (if t72001.length < 140737488355328 then (some ((t72001 ++ [rd y72023 bt72026.1]), bt72026.2.1, bt72026.2.2)) else (none)) else (none)) else (none)))) else (if t72006 = 2 then ((spec_l01Cur_once.f s0_0 t72007 t72008 5).bind fun bt72033 => (if bt72033.1 = true then ((spec_l01Cur_pick.f s0_0 bt72033.2.1 bt72033.2.2 2).bind fun bt72036 => (if 0 ≤ (wrap64 (400 + bt72036.1)) then (if (wrap64 (400 + bt72036.1) : Int).toNat ≤ 281474976710656 then (some ((List.replicate (wrap64 (400 + bt72036.1) : Int).toNat 0), bt72036.2.1, bt72036.2.2)) else (none)) else (none))) else (some (t72001, bt72033.2.1, bt72033.2.2)))) else (some (t72001, t72007, t72008))))) = some (r1, r2, r3) := H
 have A4 := Aside0.mk A40
 clear A40
 by_cases c5 : t72006 = 0
 ·rw [if_pos c5] at H
  have c5b0 : (t72006 == 0) = true := beq_iff_eq.mpr c5
  have c5b1 : (t72006 != 0) = false := bne_eq_false_iff_eq.mpr c5
  clear c5
  by_cases c6 : (t72001.length : Int) > 0
  ·rw [if_pos c6] at H
   have c6b0 : decide (0 < (t72001.length : Int)) = true := decide_eq_true c6
   have c6b1 : decide (0 < t72001.length) = true := decide_eq_true (by omega)
   clear c6
   obtain ⟨ji7, hji7⟩ : ∃ j_ : Int, (mn 256 (t72001.length : Int)) = j_ := ⟨_, rfl⟩
   replace H : ((spec_l01Cur_pick.f s0_0 t72007 t72008 (ji7)).bind fun bt72009 => ((spec_l01Cur_pick.f s0_0 bt72009.2.1 bt72009.2.2 256).bind fun bt72012 => ((some (([128, 192, 193, 224, 237, 240, 244, 245, 255, bt72012.1] : List Int) : List Int)).bind fun y72015 => ((spec_l01Cur_pick.f s0_0 bt72012.2.1 bt72012.2.2 10).bind fun bt72018 => (if 0 ≤ bt72018.1 then (if bt72018.1 < (y72015.length : Int) then (if 0 ≤ bt72009.1 then (if bt72009.1 < (t72001.length : Int) then (some ((t72001.set (bt72009.1 : Int).toNat ((rd y72015 bt72018.1) % 256)), bt72018.2.1, bt72018.2.2)) else (none)) else (none)) else (none)) else (none)))))) = some (r1, r2, r3) := by first | (rw [hji7] at H; exact H) | (simp only [hji7] at H ⊢; exact H)
   (try rw [hji7] at A3)
   (try rw [hji7] at A4)
   (try (have hji7h : ji7 ≤ 256 := by (rw [← hji7]; unfold mn; (repeat' split) <;> omega)))
   (try (have hji7g : ji7 ≤ 64 := by omega))
   (try (have hji7l : 0 ≤ ji7 := by (rw [← hji7]; unfold mn; (repeat' split) <;> omega)))
   (try (have hji7m : 0 ≤ ji7 := by omega))
   have hji7_ : (if (t72001.length : Int) < 256 then (t72001.length : Int) else 256) = ji7 := hji7
   replace H := Option.bind_eq_some_iff.mp H
   obtain ⟨⟨t72009, t72010, t72011⟩, A80, H⟩ := H
   replace H : ((spec_l01Cur_pick.f s0_0 t72010 t72011 256).bind fun bt72012 => ((some (([128, 192, 193, 224, 237, 240, 244, 245, 255, bt72012.1] : List Int) : List Int)).bind fun y72015 => ((spec_l01Cur_pick.f s0_0 bt72012.2.1 bt72012.2.2 10).bind fun bt72018 => (if 0 ≤ bt72018.1 then (if bt72018.1 < (y72015.length : Int) then (if 0 ≤ t72009 then (if t72009 < (t72001.length : Int) then (some ((t72001.set (t72009 : Int).toNat ((rd y72015 bt72018.1) % 256)), bt72018.2.1, bt72018.2.2)) else (none)) else (none)) else (none)) else (none))))) = some (r1, r2, r3) := H
   have A8 := Aside0.mk A80
   clear A80
   replace H := Option.bind_eq_some_iff.mp H
   obtain ⟨⟨t72012, t72013, t72014⟩, A90, H⟩ := H
   replace H : ((some (([128, 192, 193, 224, 237, 240, 244, 245, 255, t72012] : List Int) : List Int)).bind fun y72015 => ((spec_l01Cur_pick.f s0_0 t72013 t72014 10).bind fun bt72018 => (if 0 ≤ bt72018.1 then (if bt72018.1 < (y72015.length : Int) then (if 0 ≤ t72009 then (if t72009 < (t72001.length : Int) then (some ((t72001.set (t72009 : Int).toNat ((rd y72015 bt72018.1) % 256)), bt72018.2.1, bt72018.2.2)) else (none)) else (none)) else (none)) else (none)))) = some (r1, r2, r3) := H
   have A9 := Aside0.mk A90
   clear A90
   obtain ⟨y72015, hy72015⟩ : ∃ y_ : List Int, y_ = (([128, 192, 193, 224, 237, 240, 244, 245, 255, t72012] : List Int)) := ⟨_, rfl⟩
   replace H : ((spec_l01Cur_pick.f s0_0 t72013 t72014 10).bind fun bt72018 => (if 0 ≤ bt72018.1 then (if bt72018.1 < (y72015.length : Int) then (if 0 ≤ t72009 then (if t72009 < (t72001.length : Int) then (some ((t72001.set (t72009 : Int).toNat ((rd y72015 bt72018.1) % 256)), bt72018.2.1, bt72018.2.2)) else (none)) else (none)) else (none)) else (none))) = some (r1, r2, r3) := repH hy72015 H
   have Ny72015 := Aside0.mk hy72015
   clear hy72015
   replace H := Option.bind_eq_some_iff.mp H
   obtain ⟨⟨t72018, t72019, t72020⟩, A100, H⟩ := H
   replace H : (if 0 ≤ t72018 then (if t72018 < (y72015.length : Int) then (if 0 ≤ t72009 then (if t72009 < (t72001.length : Int) then (some ((t72001.set (t72009 : Int).toNat ((rd y72015 t72018) % 256)), t72019, t72020)) else (none)) else (none)) else (none)) else (none)) = some (r1, r2, r3) := H
   have A10 := Aside0.mk A100
   clear A100
   by_cases c11 : 0 ≤ t72018
   ·rw [if_pos c11] at H
    have c11b0 : decide (0 ≤ t72018) = true := decide_eq_true c11
    clear c11
    by_cases c12 : t72018 < (y72015.length : Int)
    ·rw [if_pos c12] at H
     have c12b0 : decide (t72018 < (y72015.length : Int)) = true := decide_eq_true c12
     clear c12
     by_cases c13 : 0 ≤ t72009
     ·rw [if_pos c13] at H
      have c13b0 : decide (0 ≤ t72009) = true := decide_eq_true c13
      clear c13
      by_cases c14 : t72009 < (t72001.length : Int)
      ·rw [if_pos c14] at H
       have c14b0 : decide (t72009 < (t72001.length : Int)) = true := decide_eq_true c14
       clear c14
       obtain ⟨y72022, hy72022⟩ : ∃ y_ : List Int, y_ = (t72001.set (t72009 : Int).toNat ((rd y72015 t72018) % 256)) := ⟨_, rfl⟩
       replace H : (some (y72022, t72019, t72020)) = some (r1, r2, r3) := repH hy72022 H
       have Ny72022 := Aside0.mk hy72022
       clear hy72022
       simp only [Option.some.injEq, Prod.mk.injEq] at H
       obtain ⟨rfl, rfl, rfl⟩ := H
       go_enter Tryd.func71, Tryd.ntmps71
       go_wp2_with (first | ((with_reducible refine gate_callee (f := 62) rfl ?_); refine goesM (some 8) Tryd.func62 #[.pointer (some ⟨g, 0, none⟩), .int .i64 a1] ?_; (with_reducible refine (spec_l01Cur_text.calls k g s0_0 s0_1 s0_2 a1 t72001 t72004 t72005 w0 _ ?side1 ?side2 A3.out).mono ?_); (case side1 => exact pIIsS141 HI0); (case side2 => exact hbIsS141); rintro e w16 ⟨v72002, rfl, ho0, hi, hb, hk⟩; refine ⟨_, rfl, ?_⟩; have HO72003 := Aside0.mk (Kd.R_lower ho0 (keep_size (w := w) (g := g) (row := none) hkk)); replace HK := Aside0.mk (KeepBut.trans hkk hk (.inl rfl)); replace HB := Aside0.mk (hb); replace HI0 := Aside0.mk (hi); (try clear hb); (try clear hb2); (try clear hk); (try clear hi); (try clear ho0)) | ((with_reducible refine gate_callee (f := 64) rfl ?_); refine goesM (some 10) Tryd.func64 #[.pointer (some ⟨g, 0, none⟩), .int .i64 9] ?_; (with_reducible refine (spec_l01Cur_pick.calls g s0_0 t72004 t72005 9 t72006 t72007 t72008 w0 _ ?side1 ?side2 A4.out).mono ?_); (case side1 => exact pIIsS141 HI0); (case side2 => exact hbIsS141); rintro e w17 ⟨rfl, hi, hb, hk⟩; refine ⟨_, rfl, ?_⟩; replace HO72003 := Aside0.mk (Kd.R_mono (Kd.R_keep (IsS141.apart (show IsS141 w0 _ g s0_0 t72004 t72005 from pIIsS141 HI0) (hrnR HO72003) (by decide)) hk (fun _ h => h.2)) (fun _ h => h.1)); replace HK := Aside0.mk (KeepBut.trans hkk hk (.inl rfl)); replace HB := Aside0.mk (hb); replace HI0 := Aside0.mk (hi); (try clear hb); (try clear hb2); (try clear hk); (try clear hi); obtain ⟨Ao18, co18, eo18⟩ := Kd.R_slice HO72003.out; subst eo18) | ((with_reducible refine gate_callee (f := 64) rfl ?_); refine goesL_ (some 21) rfl rfl Tryd.func64 (by kernel_rfl) rfl #[.pointer (some ⟨g, 0, none⟩), .int .i64 ji7] rfl (by (try simp only [List.map_toArray, List.map_cons, List.map_nil]); first | done | (simp only [hji7]; rfl) | rfl | (simp only [List.length_drop, List.length_take]; rfl)) ?_; (with_reducible refine (spec_l01Cur_pick.calls g s0_0 t72007 t72008 ji7 t72009 t72010 t72011 w0 _ ?side1 ?side2 A8.out).mono ?_); (case side1 => exact pIIsS141 HI0); (case side2 => exact hbIsS141); rintro e w19 ⟨rfl, hi, hb, hk⟩; refine ⟨_, rfl, ?_⟩; replace HO72003 := Aside0.mk (Kd.R_mono (Kd.R_keep (IsS141.apart (show IsS141 w0 _ g s0_0 t72007 t72008 from pIIsS141 HI0) (hrnR HO72003) (by decide)) hk (fun _ h => h.2)) (fun _ h => h.1)); replace HK := Aside0.mk (KeepBut.trans hkk hk (.inl rfl)); replace HB := Aside0.mk (hb); replace HI0 := Aside0.mk (hi); (try clear hb); (try clear hb2); (try clear hk); (try clear hi)) | ((with_reducible refine gate_callee (f := 64) rfl ?_); refine goesM (some 23) Tryd.func64 #[.pointer (some ⟨g, 0, none⟩), .int .i64 256] ?_; (with_reducible refine (spec_l01Cur_pick.calls g s0_0 t72010 t72011 256 t72012 t72013 t72014 w0 _ ?side1 ?side2 A9.out).mono ?_); (case side1 => exact pIIsS141 HI0); (case side2 => exact hbIsS141); rintro e w20 ⟨rfl, hi, hb, hk⟩; refine ⟨_, rfl, ?_⟩; replace HO72003 := Aside0.mk (Kd.R_mono (Kd.R_keep (IsS141.apart (show IsS141 w0 _ g s0_0 t72010 t72011 from pIIsS141 HI0) (hrnR HO72003) (by decide)) hk (fun _ h => h.2)) (fun _ h => h.1)); replace HK := Aside0.mk (KeepBut.trans hkk hk (.inl rfl)); replace HB := Aside0.mk (hb); replace HI0 := Aside0.mk (hi); (try clear hb); (try clear hb2); (try clear hk); (try clear hi)) | ((with_reducible refine gate_dst (N := 24) rfl ?_); refine Kd.R_lit (Kd.int .i64) _ 3 ?hg (N := 24) ?hd (xs := ([128, 192, 193, 224, 237, 240, 244, 245, 255, t72012] : List Int)) (inner := [.int .i64 128, .int .i64 192, .int .i64 193, .int .i64 224, .int .i64 237, .int .i64 240, .int .i64 244, .int .i64 245, .int .i64 255, .int .i64 t72012]) (ok := fun _ => True) (okp := fun _ => True) ?hr ?hp (fun _ hk => hk) trivial (Below.refl _ _) (Nat.le_refl _) (by simp) ?_; (case hd => rfl); (case hg => rfl); (case hr => first | (go_simp; done) | (go_simp; rfl)); (case hp => exact (Reps.one (show Kd.M (Kd.int .i64) _ _ _ 128 [.int .i64 128] from rfl) (Reps.one (show Kd.M (Kd.int .i64) _ _ _ 192 [.int .i64 192] from rfl) (Reps.one (show Kd.M (Kd.int .i64) _ _ _ 193 [.int .i64 193] from rfl) (Reps.one (show Kd.M (Kd.int .i64) _ _ _ 224 [.int .i64 224] from rfl) (Reps.one (show Kd.M (Kd.int .i64) _ _ _ 237 [.int .i64 237] from rfl) (Reps.one (show Kd.M (Kd.int .i64) _ _ _ 240 [.int .i64 240] from rfl) (Reps.one (show Kd.M (Kd.int .i64) _ _ _ 244 [.int .i64 244] from rfl) (Reps.one (show Kd.M (Kd.int .i64) _ _ _ 245 [.int .i64 245] from rfl) (Reps.one (show Kd.M (Kd.int .i64) _ _ _ 255 [.int .i64 255] from rfl) (Reps.one (show Kd.M (Kd.int .i64) _ _ _ t72012 [.int .i64 t72012] from rfl) (Reps.none _ _)))))))))))); intro v72016 w21 ho22 hb hg_ hnew_; clear hg_ hnew_; (first | rw [← Ny72015.out] at ho22 | (simp only [Int.reduceToNat] at ho22; rw [← Ny72015.out] at ho22)); have HO72017 := Aside0.mk (Kd.R_lower ho22 (keep_size (w := w) (g := g) (row := none) hkk)); replace HO72003 := Aside0.mk (Kd.R_below (hrnR HO72003) hb); replace HK := Aside0.mk (KeepBut.trans hkk (KeepBut.of_below hb g none) (.inl rfl)); replace HB := Aside0.mk (below_step hbIsS141 hb); replace HI0 := Aside0.mk (IsS141.below (pIIsS141 HI0) hb); clear hb ho22) | ((with_reducible refine gate_callee (f := 64) rfl ?_); refine goesM (some 26) Tryd.func64 #[.pointer (some ⟨g, 0, none⟩), .int .i64 10] ?_; (with_reducible refine (spec_l01Cur_pick.calls g s0_0 t72013 t72014 10 t72018 t72019 t72020 w0 _ ?side1 ?side2 A10.out).mono ?_); (case side1 => exact pIIsS141 HI0); (case side2 => exact hbIsS141); rintro e w23 ⟨rfl, hi, hb, hk⟩; refine ⟨_, rfl, ?_⟩; replace HO72003 := Aside0.mk (Kd.R_mono (Kd.R_keep (IsS141.apart (show IsS141 w0 _ g s0_0 t72013 t72014 from pIIsS141 HI0) (hrnR HO72003) (by decide)) hk (fun _ h => h.2)) (fun _ h => h.1)); replace HO72017 := Aside0.mk (Kd.R_mono (Kd.R_keep (IsS141.apart (show IsS141 w0 _ g s0_0 t72013 t72014 from pIIsS141 HI0) (hrnR HO72017) (by decide)) hk (fun _ h => h.2)) (fun _ h => h.1)); replace HK := Aside0.mk (KeepBut.trans hkk hk (.inl rfl)); replace HB := Aside0.mk (hb); replace HI0 := Aside0.mk (hi); (try clear hb); (try clear hb2); (try clear hk); (try clear hi); obtain ⟨Ao24, co24, eo24⟩ := Kd.R_slice HO72017.out; subst eo24; have p72021 : 0 ≤ (t72018 : Int) := odt; have q72021 : t72018 < (y72015.length : Int) := odt; obtain ⟨ad72021, e72021, hx72021_0⟩ := Kd.at_int (Kd.R_reads' HO72017.out).2.2 t72018 p72021 q72021; cases e72021; replace p72021 := eq_true p72021; replace q72021 := eq_true q72021; have p15 : 0 ≤ (t72009 : Int) := odt; have q15 : (t72009 : Int) < ((t72001.length : Int) : Int) := odt; obtain ⟨go15, co15, eo15, gb15, gl15, cl15, HG15⟩ := Kd.R_form HO72003.out (by omega); (first | cases eo15 | (injection eo15 with ea_ en_ ec_; (first | subst ea_ | (injection ea_ with ea_; subst ea_)); subst ec_; clear en_)); have GB15 := Aside0.mk gb15; have GG15 := Aside0.mk HG15; clear gb15 gl15 HG15; obtain ⟨hx15_0, hf15_0⟩ := Kd.R_celln 0 HO72003.out (t72009 : Int) p15 q15; replace p15 := eq_true p15; replace q15 := eq_true q15; obtain ⟨hy25_, hz25_⟩ := Kd.R_celln 0 HO72003.out (t72009 : Int) (odt) (odt); have HP25 := Kd.R_putg HO72003.out (t72009 : Int) ((rd y72015 t72018) % 256)) | ((with_reducible refine gate_store (t := 5) (p := 30) rfl ?_); refine store_event (t := 5) (p := 30) (v := ?vo_w26) (w1 := (w23.setCell ⟨go15, (t72009 : Int).toNat, none⟩ (.int .u8 ((rd y72015 t72018) % 256)))) ?hg ?ho ?hn ?hr ?_; (case ho => rfl); (case hg => rfl); (case hn => rfl); (case hr => first | (go_simp; done) | (go_simp; rfl)); intro w26 hw; have hg : w23.grownBy w26 (some go15) := (by rw [hw]; exact HP25.2); have hp_ : Kd.R (Kd.int .u8) 5 w26 w.heap.size (fun _ => True) (.slice (some ⟨go15, 0, none⟩) t72001.length co18) y72022 := (by rw [hw, Ny72022.out]; exact HP25.1); clear HP25; replace HI0 := Aside0.mk (IsS141.grown (pIIsS141 HI0) hg (IsS141.own_ne HI0.out HO72003.out (by decide))); replace HO72017 := Aside0.mk (Kd.R_over' (v := (.slice (some ⟨go15, 0, none⟩) t72001.length co18)) (hrnR HO72017) (Kd.R_typed HO72003.out) (by decide) hg); replace HB := Aside0.mk ((by rw [hw]; exact below_set (HB.out) (Nat.le_trans HL.out GB15.out) : Below w0.heap.size w0 w26)); replace HK := Aside0.mk (KeepBut.trans hkk (KeepBut.of_grown hg g) (Kd.R_base2 HO72003.out)); replace HO72003 := Aside0.mk (hp_); clear hg hw hp_))
       go_ret
       exact ⟨_, by first | rfl | (simp [errW_none, errW_some] <;> rfl) | (simp only [← hji7]; first | rfl | (simp [errW_none, errW_some] <;> rfl)) | (simp [*, errW_none, errW_some] <;> rfl), (hrnR HO72003), pIIsS141 HI0, hbIsS141, hkk⟩
      ·rw [if_neg c14] at H
       exact absurd H (by simp)
     ·rw [if_neg c13] at H
      exact absurd H (by simp)
    ·rw [if_neg c12] at H
     exact absurd H (by simp)
   ·rw [if_neg c11] at H
    exact absurd H (by simp)
  ·rw [if_neg c6] at H
   have c6b0 : decide (0 < (t72001.length : Int)) = false := decide_eq_false c6
   have c6b1 : decide (0 < t72001.length) = false := decide_eq_false (by omega)
   clear c6
   simp only [Option.some.injEq, Prod.mk.injEq] at H
   obtain ⟨rfl, rfl, rfl⟩ := H
   go_enter Tryd.func71, Tryd.ntmps71
   go_wp2_with (first | ((with_reducible refine gate_callee (f := 62) rfl ?_); refine goesM (some 8) Tryd.func62 #[.pointer (some ⟨g, 0, none⟩), .int .i64 a1] ?_; (with_reducible refine (spec_l01Cur_text.calls k g s0_0 s0_1 s0_2 a1 t72001 t72004 t72005 w0 _ ?side1 ?side2 A3.out).mono ?_); (case side1 => exact pIIsS141 HI0); (case side2 => exact hbIsS141); rintro e w27 ⟨v72002, rfl, ho0, hi, hb, hk⟩; refine ⟨_, rfl, ?_⟩; have HO72003 := Aside0.mk (Kd.R_lower ho0 (keep_size (w := w) (g := g) (row := none) hkk)); replace HK := Aside0.mk (KeepBut.trans hkk hk (.inl rfl)); replace HB := Aside0.mk (hb); replace HI0 := Aside0.mk (hi); (try clear hb); (try clear hb2); (try clear hk); (try clear hi); (try clear ho0)) | ((with_reducible refine gate_callee (f := 64) rfl ?_); refine goesM (some 10) Tryd.func64 #[.pointer (some ⟨g, 0, none⟩), .int .i64 9] ?_; (with_reducible refine (spec_l01Cur_pick.calls g s0_0 t72004 t72005 9 t72006 t72007 t72008 w0 _ ?side1 ?side2 A4.out).mono ?_); (case side1 => exact pIIsS141 HI0); (case side2 => exact hbIsS141); rintro e w28 ⟨rfl, hi, hb, hk⟩; refine ⟨_, rfl, ?_⟩; replace HO72003 := Aside0.mk (Kd.R_mono (Kd.R_keep (IsS141.apart (show IsS141 w0 _ g s0_0 t72004 t72005 from pIIsS141 HI0) (hrnR HO72003) (by decide)) hk (fun _ h => h.2)) (fun _ h => h.1)); replace HK := Aside0.mk (KeepBut.trans hkk hk (.inl rfl)); replace HB := Aside0.mk (hb); replace HI0 := Aside0.mk (hi); (try clear hb); (try clear hb2); (try clear hk); (try clear hi); obtain ⟨Ao29, co29, eo29⟩ := Kd.R_slice HO72003.out; subst eo29))
   go_ret
   exact ⟨_, erf, (hrnR HO72003), pIIsS141 HI0, hbIsS141, hkk⟩
 ·rw [if_neg c5] at H
  have c5b0 : (t72006 == 0) = false := beq_eq_false_iff_ne.mpr c5
  have c5b1 : (t72006 != 0) = true := bne_iff_ne.mpr c5
  by_cases c30 : t72006 = 1
  ·rw [if_pos c30] at H
   have c30b0 : (t72006 == 1) = true := beq_iff_eq.mpr c30
   have c30b1 : (t72006 != 1) = false := bne_eq_false_iff_eq.mpr c30
   clear c30
   obtain ⟨y72023, hy72023⟩ : ∃ y_ : List Int, y_ = (([195, 226, 240] : List Int)) := ⟨_, rfl⟩
   replace H : ((spec_l01Cur_pick.f s0_0 t72007 t72008 3).bind fun bt72026 => (if 0 ≤ bt72026.1 then (if bt72026.1 < (y72023.length : Int) then (if t72001.length < 140737488355328 then (some ((t72001 ++ [rd y72023 bt72026.1]), bt72026.2.1, bt72026.2.2)) else (none)) else (none)) else (none))) = some (r1, r2, r3) := repH hy72023 H
   have Ny72023 := Aside0.mk hy72023
   clear hy72023
   replace H := Option.bind_eq_some_iff.mp H
   obtain ⟨⟨t72026, t72027, t72028⟩, A310, H⟩ := H
   replace H : (if 0 ≤ t72026 then (if t72026 < (y72023.length : Int) then (if t72001.length < 140737488355328 then (some ((t72001 ++ [rd y72023 t72026]), t72027, t72028)) else (none)) else (none)) else (none)) = some (r1, r2, r3) := H
   have A31 := Aside0.mk A310
   clear A310
   by_cases c32 : 0 ≤ t72026
   ·rw [if_pos c32] at H
    have c32b0 : decide (0 ≤ t72026) = true := decide_eq_true c32
    clear c32
    by_cases c33 : t72026 < (y72023.length : Int)
    ·rw [if_pos c33] at H
     have c33b0 : decide (t72026 < (y72023.length : Int)) = true := decide_eq_true c33
     clear c33
     by_cases c34 : t72001.length < 140737488355328
     ·rw [if_pos c34] at H
      have LMc34 := Aside0.mk c34
      clear c34
      obtain ⟨y72030, hy72030⟩ : ∃ y_ : List Int, y_ = (t72001 ++ [rd y72023 t72026]) := ⟨_, rfl⟩
      replace H : (some (y72030, t72027, t72028)) = some (r1, r2, r3) := repH hy72030 H
      have Ny72030 := Aside0.mk hy72030
      clear hy72030
      simp only [Option.some.injEq, Prod.mk.injEq] at H
      obtain ⟨rfl, rfl, rfl⟩ := H
      go_enter Tryd.func71, Tryd.ntmps71
      go_wp2_with (first | ((with_reducible refine gate_callee (f := 62) rfl ?_); refine goesM (some 8) Tryd.func62 #[.pointer (some ⟨g, 0, none⟩), .int .i64 a1] ?_; (with_reducible refine (spec_l01Cur_text.calls k g s0_0 s0_1 s0_2 a1 t72001 t72004 t72005 w0 _ ?side1 ?side2 A3.out).mono ?_); (case side1 => exact pIIsS141 HI0); (case side2 => exact hbIsS141); rintro e w35 ⟨v72002, rfl, ho0, hi, hb, hk⟩; refine ⟨_, rfl, ?_⟩; have HO72003 := Aside0.mk (Kd.R_lower ho0 (keep_size (w := w) (g := g) (row := none) hkk)); replace HK := Aside0.mk (KeepBut.trans hkk hk (.inl rfl)); replace HB := Aside0.mk (hb); replace HI0 := Aside0.mk (hi); (try clear hb); (try clear hb2); (try clear hk); (try clear hi); (try clear ho0)) | ((with_reducible refine gate_callee (f := 64) rfl ?_); refine goesM (some 10) Tryd.func64 #[.pointer (some ⟨g, 0, none⟩), .int .i64 9] ?_; (with_reducible refine (spec_l01Cur_pick.calls g s0_0 t72004 t72005 9 t72006 t72007 t72008 w0 _ ?side1 ?side2 A4.out).mono ?_); (case side1 => exact pIIsS141 HI0); (case side2 => exact hbIsS141); rintro e w36 ⟨rfl, hi, hb, hk⟩; refine ⟨_, rfl, ?_⟩; replace HO72003 := Aside0.mk (Kd.R_mono (Kd.R_keep (IsS141.apart (show IsS141 w0 _ g s0_0 t72004 t72005 from pIIsS141 HI0) (hrnR HO72003) (by decide)) hk (fun _ h => h.2)) (fun _ h => h.1)); replace HK := Aside0.mk (KeepBut.trans hkk hk (.inl rfl)); replace HB := Aside0.mk (hb); replace HI0 := Aside0.mk (hi); (try clear hb); (try clear hb2); (try clear hk); (try clear hi)) | ((with_reducible refine gate_dst (N := 34) rfl ?_); refine Kd.R_lit (Kd.int .u8) _ 5 ?hg (N := 34) ?hd (xs := ([195, 226, 240] : List Int)) (inner := [.int .u8 195, .int .u8 226, .int .u8 240]) (ok := fun _ => True) (okp := fun _ => True) ?hr ?hp (fun _ hk => hk) trivial (Below.refl _ _) (Nat.le_refl _) (by simp) ?_; (case hd => rfl); (case hg => rfl); (case hr => first | (go_simp; done) | (go_simp; rfl)); (case hp => exact (Reps.one (show Kd.M (Kd.int .u8) _ _ _ 195 [.int .u8 195] from rfl) (Reps.one (show Kd.M (Kd.int .u8) _ _ _ 226 [.int .u8 226] from rfl) (Reps.one (show Kd.M (Kd.int .u8) _ _ _ 240 [.int .u8 240] from rfl) (Reps.none _ _))))); intro v72024 w37 ho38 hb hg_ hnew_; clear hg_ hnew_; (first | rw [← Ny72023.out] at ho38 | (simp only [Int.reduceToNat] at ho38; rw [← Ny72023.out] at ho38)); have HO72025 := Aside0.mk (Kd.R_lower (Kd.R_new' ho38 (Kd.R_lt (hrnR HO72003))) (keep_size (w := w) (g := g) (row := none) hkk)); replace HO72003 := Aside0.mk (Kd.R_elder' (hrnR HO72003) (Kd.R_base ho38) hb); replace HK := Aside0.mk (KeepBut.trans hkk (KeepBut.of_below hb g none) (.inl rfl)); replace HB := Aside0.mk (below_step hbIsS141 hb); replace HI0 := Aside0.mk (IsS141.below (pIIsS141 HI0) hb); clear hb ho38) | ((with_reducible refine gate_callee (f := 64) rfl ?_); refine goesM (some 36) Tryd.func64 #[.pointer (some ⟨g, 0, none⟩), .int .i64 3] ?_; (with_reducible refine (spec_l01Cur_pick.calls g s0_0 t72007 t72008 3 t72026 t72027 t72028 w0 _ ?side1 ?side2 A31.out).mono ?_); (case side1 => exact pIIsS141 HI0); (case side2 => exact hbIsS141); rintro e w39 ⟨rfl, hi, hb, hk⟩; refine ⟨_, rfl, ?_⟩; replace HO72003 := Aside0.mk (Kd.R_mono (Kd.R_keep (IsS141.apart (show IsS141 w0 _ g s0_0 t72007 t72008 from pIIsS141 HI0) (hrnR HO72003) (by decide)) hk (fun _ h => h.2)) (fun _ h => h.1)); replace HO72025 := Aside0.mk (Kd.R_mono (Kd.R_keep (IsS141.apart (show IsS141 w0 _ g s0_0 t72007 t72008 from pIIsS141 HI0) (hrnR HO72025) (by decide)) hk (fun _ h => h.2)) (fun _ h => h.1)); replace HK := Aside0.mk (KeepBut.trans hkk hk (.inl rfl)); replace HB := Aside0.mk (hb); replace HI0 := Aside0.mk (hi); (try clear hb); (try clear hb2); (try clear hk); (try clear hi); obtain ⟨Ao40, co40, eo40⟩ := Kd.R_slice HO72025.out; subst eo40; have p72029 : 0 ≤ (t72026 : Int) := odt; have q72029 : t72026 < (y72023.length : Int) := odt; obtain ⟨ad72029, e72029, hx72029_0⟩ := Kd.at_int (Kd.R_reads' HO72025.out).2.2 t72026 p72029 q72029; cases e72029; replace p72029 := eq_true p72029; replace q72029 := eq_true q72029) | ((with_reducible refine gate_builtin (b := .append) (xs := #[.tmp 33, .tmp 39]) rfl ?_); at_builtin; refine Kd.R_append (Kd.int .u8) w.heap.size rfl (.tmp 33) (.tmp 39) 22 5 (.int .u8 0) 1 rfl Tryd.underlying22 info5 rfl (by decide) (by omega) v72002 t72001 (rd y72023 t72026) [.int .u8 (rd y72023 t72026)] (fun k_ => some k_ ≠ (.slice (some ad72029) y72023.length co40 : Value).ownBlock) (fun _ => False) rfl rfl ?aP (fun _ hk => hk.elim) ?aF ?aO (Below.refl _ _) ?aS ?aL ?_; (case aP => exact rfl); (case aF => exact (fun k_ hk => Kd.fresh' (Kd.R_lt (hrnR HO72025)) k_ hk)); (case aO => exact (by (with_reducible repeat (first | apply Kd.R_alloc | apply Kd.R_drewN | apply Kd.R_drew)); exact Kd.R_mono HO72003.out (fun _ hk => hk.2))); (case aS => exact (keep_size (w := w) (g := g) (row := none) hkk)); (case aL => have := LMc34.out; omega); intro v72031 w41 ho hb hg hat; rw [← Ny72030.out] at ho; have HO72032 := Aside0.mk (ho); replace HO72025 := Aside0.mk (Kd.R_after (ok := (fun _ => True)) (hrnR HO72025) hg hat); replace HB := Aside0.mk (below_weaken hbIsS141 HL.out hb); replace HI0 := Aside0.mk (IsS141.grown (pIIsS141 HI0) hg (IsS141.own_ne HI0.out HO72003.out (by decide))); replace HK := Aside0.mk (KeepBut.trans hkk (KeepBut.of_grown hg g) (Kd.R_base2 HO72003.out)); clear HO72003; clear ho hb hg hat))
      go_ret
      exact ⟨_, erf, by (with_reducible repeat (first | apply Kd.R_alloc | apply Kd.R_drewN | apply Kd.R_drew)); exact Kd.R_mono HO72032.out (fun _ hk => trivial), pIIsS141 HI0, hbIsS141, hkk⟩
     ·rw [if_neg c34] at H
      exact absurd H (by simp)
    ·rw [if_neg c33] at H
     exact absurd H (by simp)
   ·rw [if_neg c32] at H
    exact absurd H (by simp)
  ·rw [if_neg c30] at H
   have c30b0 : (t72006 == 1) = false := beq_eq_false_iff_ne.mpr c30
   have c30b1 : (t72006 != 1) = true := bne_iff_ne.mpr c30
   by_cases c42 : t72006 = 2
   ·rw [if_pos c42] at H
    have c42b0 : (t72006 == 2) = true := beq_iff_eq.mpr c42
    have c42b1 : (t72006 != 2) = false := bne_eq_false_iff_eq.mpr c42
    clear c42
    replace H := Option.bind_eq_some_iff.mp H
    obtain ⟨⟨t72033, t72034, t72035⟩, A430, H⟩ := H
    replace H : (if t72033 = true then ((spec_l01Cur_pick.f s0_0 t72034 t72035 2).bind fun bt72036 => (if 0 ≤ (wrap64 (400 + bt72036.1)) then (if (wrap64 (400 + bt72036.1) : Int).toNat ≤ 281474976710656 then (some ((List.replicate (wrap64 (400 + bt72036.1) : Int).toNat 0), bt72036.2.1, bt72036.2.2)) else (none)) else (none))) else (some (t72001, t72034, t72035))) = some (r1, r2, r3) := H
    have A43 := Aside0.mk A430
    clear A430
    by_cases c44 : t72033 = true
    ·subst c44
     have H1 : ((spec_l01Cur_pick.f s0_0 t72034 t72035 2).bind fun bt72036 => (if 0 ≤ (wrap64 (400 + bt72036.1)) then (if (wrap64 (400 + bt72036.1) : Int).toNat ≤ 281474976710656 then (some ((List.replicate (wrap64 (400 + bt72036.1) : Int).toNat 0), bt72036.2.1, bt72036.2.2)) else (none)) else (none))) = some (r1, r2, r3) := by rw [if_pos rfl] at H; exact H
     clear H
     have H := H1
     clear H1
     replace H := Option.bind_eq_some_iff.mp H
     obtain ⟨⟨t72036, t72037, t72038⟩, A450, H⟩ := H
     replace H : (if 0 ≤ (wrap64 (400 + t72036)) then (if (wrap64 (400 + t72036) : Int).toNat ≤ 281474976710656 then (some ((List.replicate (wrap64 (400 + t72036) : Int).toNat 0), t72037, t72038)) else (none)) else (none)) = some (r1, r2, r3) := H
     have A45 := Aside0.mk A450
     clear A450
     obtain ⟨ji46, hji46⟩ : ∃ j_ : Int, (wrap64 (400 + t72036)) = j_ := ⟨_, rfl⟩
     replace H : (if 0 ≤ (ji46) then (if (ji46 : Int).toNat ≤ 281474976710656 then (some ((List.replicate (ji46 : Int).toNat 0), t72037, t72038)) else (none)) else (none)) = some (r1, r2, r3) := by first | (rw [hji46] at H; exact H) | (simp only [hji46] at H ⊢; exact H)
     (try rw [hji46] at A3)
     (try rw [hji46] at A4)
     (try rw [hji46] at A43)
     (try rw [hji46] at A45)
     have hji46w : (IntKind.i64.wrap (400 + t72036)) = ji46 := (i64_w _).trans hji46
     by_cases c47 : 0 ≤ (ji46)
     ·rw [if_pos c47] at H
      have c47b0 := eq_true c47
      have c47b1 : decide (0 ≤ (ji46)) = true := decide_eq_true c47
      clear c47
      by_cases c48 : (ji46 : Int).toNat ≤ 281474976710656
      ·rw [if_pos c48] at H
       have c48b0 := eq_true c48
       have c48b1 : decide ((ji46 : Int).toNat ≤ 281474976710656) = true := decide_eq_true c48
       clear c48
       obtain ⟨y72039, hy72039⟩ : ∃ y_ : List Int, y_ = (List.replicate (ji46 : Int).toNat 0) := ⟨_, rfl⟩
       replace H : (some (y72039, t72037, t72038)) = some (r1, r2, r3) := repH hy72039 H
       have Ny72039 := Aside0.mk hy72039
       clear hy72039
       simp only [Option.some.injEq, Prod.mk.injEq] at H
       obtain ⟨rfl, rfl, rfl⟩ := H
       go_enter Tryd.func71, Tryd.ntmps71
       go_wp2_with (first | ((with_reducible refine gate_callee (f := 62) rfl ?_); refine goesM (some 8) Tryd.func62 #[.pointer (some ⟨g, 0, none⟩), .int .i64 a1] ?_; (with_reducible refine (spec_l01Cur_text.calls k g s0_0 s0_1 s0_2 a1 t72001 t72004 t72005 w0 _ ?side1 ?side2 A3.out).mono ?_); (case side1 => exact pIIsS141 HI0); (case side2 => exact hbIsS141); rintro e w49 ⟨v72002, rfl, ho0, hi, hb, hk⟩; refine ⟨_, rfl, ?_⟩; have HO72003 := Aside0.mk (Kd.R_lower ho0 (keep_size (w := w) (g := g) (row := none) hkk)); replace HK := Aside0.mk (KeepBut.trans hkk hk (.inl rfl)); replace HB := Aside0.mk (hb); replace HI0 := Aside0.mk (hi); (try clear hb); (try clear hb2); (try clear hk); (try clear hi); (try clear ho0)) | ((with_reducible refine gate_callee (f := 64) rfl ?_); refine goesM (some 10) Tryd.func64 #[.pointer (some ⟨g, 0, none⟩), .int .i64 9] ?_; (with_reducible refine (spec_l01Cur_pick.calls g s0_0 t72004 t72005 9 t72006 t72007 t72008 w0 _ ?side1 ?side2 A4.out).mono ?_); (case side1 => exact pIIsS141 HI0); (case side2 => exact hbIsS141); rintro e w50 ⟨rfl, hi, hb, hk⟩; refine ⟨_, rfl, ?_⟩; replace HO72003 := Aside0.mk (Kd.R_mono (Kd.R_keep (IsS141.apart (show IsS141 w0 _ g s0_0 t72004 t72005 from pIIsS141 HI0) (hrnR HO72003) (by decide)) hk (fun _ h => h.2)) (fun _ h => h.1)); replace HK := Aside0.mk (KeepBut.trans hkk hk (.inl rfl)); replace HB := Aside0.mk (hb); replace HI0 := Aside0.mk (hi); (try clear hb); (try clear hb2); (try clear hk); (try clear hi)) | ((with_reducible refine gate_callee (f := 70) rfl ?_); refine goesM (some 44) Tryd.func70 #[.pointer (some ⟨g, 0, none⟩), .int .i64 5] ?_; (with_reducible refine (spec_l01Cur_once.calls g s0_0 t72007 t72008 5 true t72034 t72035 w0 _ ?side1 ?side2 A43.out).mono ?_); (case side1 => exact pIIsS141 HI0); (case side2 => exact hbIsS141); rintro e w51 ⟨rfl, hi, hb, hk⟩; refine ⟨_, rfl, ?_⟩; replace HO72003 := Aside0.mk (Kd.R_mono (Kd.R_keep (IsS141.apart (show IsS141 w0 _ g s0_0 t72007 t72008 from pIIsS141 HI0) (hrnR HO72003) (by decide)) hk (fun _ h => h.2)) (fun _ h => h.1)); replace HK := Aside0.mk (KeepBut.trans hkk hk (.inl rfl)); replace HB := Aside0.mk (hb); replace HI0 := Aside0.mk (hi); (try clear hb); (try clear hb2); (try clear hk); (try clear hi)) | ((with_reducible refine gate_callee (f := 64) rfl ?_); refine goesM (some 46) Tryd.func64 #[.pointer (some ⟨g, 0, none⟩), .int .i64 2] ?_; (with_reducible refine (spec_l01Cur_pick.calls g s0_0 t72034 t72035 2 t72036 t72037 t72038 w0 _ ?side1 ?side2 A45.out).mono ?_); (case side1 => exact pIIsS141 HI0); (case side2 => exact hbIsS141); rintro e w52 ⟨rfl, hi, hb, hk⟩; refine ⟨_, rfl, ?_⟩; replace HO72003 := Aside0.mk (Kd.R_mono (Kd.R_keep (IsS141.apart (show IsS141 w0 _ g s0_0 t72034 t72035 from pIIsS141 HI0) (hrnR HO72003) (by decide)) hk (fun _ h => h.2)) (fun _ h => h.1)); replace HK := Aside0.mk (KeepBut.trans hkk hk (.inl rfl)); replace HB := Aside0.mk (hb); replace HI0 := Aside0.mk (hi); (try clear hb); (try clear hb2); (try clear hk); (try clear hi)) | ((with_reducible refine gate_dst (N := 48) rfl ?_); refine Kd.R_make (Kd.int .u8) _ 5 rfl (N := 48) rfl 22 _ _ rfl ji46 rfl rfl Tryd.underlying22 (.int .u8 0) 1 info5 rfl (by decide) (by omega) 0 (ok := fun _ => True) (okp := fun _ => True) rfl (fun _ hk => hk) trivial (odt) (Nat.le_trans (Nat.mul_le_mul_right _ (odt : ji46.toNat ≤ 281474976710656)) (by omega)) (Below.refl _ _) (Nat.le_refl _) ?_; intro v72040 w53 ho54 hb hg_ hnew_; clear hg_ hnew_; (first | rw [← Ny72039.out] at ho54 | (simp only [Int.reduceToNat] at ho54; rw [← Ny72039.out] at ho54)); have HO72041 := Aside0.mk (Kd.R_lower (Kd.R_new' ho54 (Kd.R_lt (hrnR HO72003))) (keep_size (w := w) (g := g) (row := none) hkk)); replace HO72003 := Aside0.mk (Kd.R_elder' (hrnR HO72003) (Kd.R_base ho54) hb); replace HK := Aside0.mk (KeepBut.trans hkk (KeepBut.of_below hb g none) (.inl rfl)); replace HB := Aside0.mk (below_step hbIsS141 hb); replace HI0 := Aside0.mk (IsS141.below (pIIsS141 HI0) hb); clear hb ho54))
       go_ret
       exact ⟨_, by first | rfl | (simp [errW_none, errW_some] <;> rfl) | (simp only [← hji46]; first | rfl | (simp [errW_none, errW_some] <;> rfl)) | (simp [*, errW_none, errW_some] <;> rfl), by (with_reducible repeat (first | apply Kd.R_alloc | apply Kd.R_drewN | apply Kd.R_drew)); exact Kd.R_mono HO72041.out (fun _ hk => trivial), pIIsS141 HI0, hbIsS141, hkk⟩
      ·rw [if_neg c48] at H
       exact absurd H (by simp)
     ·rw [if_neg c47] at H
      exact absurd H (by simp)
    ·replace c44 := Bool.eq_false_iff.mpr c44
     subst c44
     have H1 : (some (t72001, t72034, t72035)) = some (r1, r2, r3) := by rw [if_neg (show ¬ (false = true) by decide)] at H; exact H
     clear H
     have H := H1
     clear H1
     simp only [Option.some.injEq, Prod.mk.injEq] at H
     obtain ⟨rfl, rfl, rfl⟩ := H
     go_enter Tryd.func71, Tryd.ntmps71
     go_wp2_with (first | ((with_reducible refine gate_callee (f := 62) rfl ?_); refine goesM (some 8) Tryd.func62 #[.pointer (some ⟨g, 0, none⟩), .int .i64 a1] ?_; (with_reducible refine (spec_l01Cur_text.calls k g s0_0 s0_1 s0_2 a1 t72001 t72004 t72005 w0 _ ?side1 ?side2 A3.out).mono ?_); (case side1 => exact pIIsS141 HI0); (case side2 => exact hbIsS141); rintro e w55 ⟨v72002, rfl, ho0, hi, hb, hk⟩; refine ⟨_, rfl, ?_⟩; have HO72003 := Aside0.mk (Kd.R_lower ho0 (keep_size (w := w) (g := g) (row := none) hkk)); replace HK := Aside0.mk (KeepBut.trans hkk hk (.inl rfl)); replace HB := Aside0.mk (hb); replace HI0 := Aside0.mk (hi); (try clear hb); (try clear hb2); (try clear hk); (try clear hi); (try clear ho0)) | ((with_reducible refine gate_callee (f := 64) rfl ?_); refine goesM (some 10) Tryd.func64 #[.pointer (some ⟨g, 0, none⟩), .int .i64 9] ?_; (with_reducible refine (spec_l01Cur_pick.calls g s0_0 t72004 t72005 9 t72006 t72007 t72008 w0 _ ?side1 ?side2 A4.out).mono ?_); (case side1 => exact pIIsS141 HI0); (case side2 => exact hbIsS141); rintro e w56 ⟨rfl, hi, hb, hk⟩; refine ⟨_, rfl, ?_⟩; replace HO72003 := Aside0.mk (Kd.R_mono (Kd.R_keep (IsS141.apart (show IsS141 w0 _ g s0_0 t72004 t72005 from pIIsS141 HI0) (hrnR HO72003) (by decide)) hk (fun _ h => h.2)) (fun _ h => h.1)); replace HK := Aside0.mk (KeepBut.trans hkk hk (.inl rfl)); replace HB := Aside0.mk (hb); replace HI0 := Aside0.mk (hi); (try clear hb); (try clear hb2); (try clear hk); (try clear hi)) | ((with_reducible refine gate_callee (f := 70) rfl ?_); refine goesM (some 44) Tryd.func70 #[.pointer (some ⟨g, 0, none⟩), .int .i64 5] ?_; (with_reducible refine (spec_l01Cur_once.calls g s0_0 t72007 t72008 5 false t72034 t72035 w0 _ ?side1 ?side2 A43.out).mono ?_); (case side1 => exact pIIsS141 HI0); (case side2 => exact hbIsS141); rintro e w57 ⟨rfl, hi, hb, hk⟩; refine ⟨_, rfl, ?_⟩; replace HO72003 := Aside0.mk (Kd.R_mono (Kd.R_keep (IsS141.apart (show IsS141 w0 _ g s0_0 t72007 t72008 from pIIsS141 HI0) (hrnR HO72003) (by decide)) hk (fun _ h => h.2)) (fun _ h => h.1)); replace HK := Aside0.mk (KeepBut.trans hkk hk (.inl rfl)); replace HB := Aside0.mk (hb); replace HI0 := Aside0.mk (hi); (try clear hb); (try clear hb2); (try clear hk); (try clear hi)))
     go_ret
     exact ⟨_, erf, (hrnR HO72003), pIIsS141 HI0, hbIsS141, hkk⟩
   ·rw [if_neg c42] at H
    have c42b0 : (t72006 == 2) = false := beq_eq_false_iff_ne.mpr c42
    have c42b1 : (t72006 != 2) = true := bne_iff_ne.mpr c42
    simp only [Option.some.injEq, Prod.mk.injEq] at H
    obtain ⟨rfl, rfl, rfl⟩ := H
    go_enter Tryd.func71, Tryd.ntmps71
    go_wp2_with (first | ((with_reducible refine gate_callee (f := 62) rfl ?_); refine goesM (some 8) Tryd.func62 #[.pointer (some ⟨g, 0, none⟩), .int .i64 a1] ?_; (with_reducible refine (spec_l01Cur_text.calls k g s0_0 s0_1 s0_2 a1 t72001 t72004 t72005 w0 _ ?side1 ?side2 A3.out).mono ?_); (case side1 => exact pIIsS141 HI0); (case side2 => exact hbIsS141); rintro e w58 ⟨v72002, rfl, ho0, hi, hb, hk⟩; refine ⟨_, rfl, ?_⟩; have HO72003 := Aside0.mk (Kd.R_lower ho0 (keep_size (w := w) (g := g) (row := none) hkk)); replace HK := Aside0.mk (KeepBut.trans hkk hk (.inl rfl)); replace HB := Aside0.mk (hb); replace HI0 := Aside0.mk (hi); (try clear hb); (try clear hb2); (try clear hk); (try clear hi); (try clear ho0)) | ((with_reducible refine gate_callee (f := 64) rfl ?_); refine goesM (some 10) Tryd.func64 #[.pointer (some ⟨g, 0, none⟩), .int .i64 9] ?_; (with_reducible refine (spec_l01Cur_pick.calls g s0_0 t72004 t72005 9 t72006 t72007 t72008 w0 _ ?side1 ?side2 A4.out).mono ?_); (case side1 => exact pIIsS141 HI0); (case side2 => exact hbIsS141); rintro e w59 ⟨rfl, hi, hb, hk⟩; refine ⟨_, rfl, ?_⟩; replace HO72003 := Aside0.mk (Kd.R_mono (Kd.R_keep (IsS141.apart (show IsS141 w0 _ g s0_0 t72004 t72005 from pIIsS141 HI0) (hrnR HO72003) (by decide)) hk (fun _ h => h.2)) (fun _ h => h.1)); replace HK := Aside0.mk (KeepBut.trans hkk hk (.inl rfl)); replace HB := Aside0.mk (hb); replace HI0 := Aside0.mk (hi); (try clear hb); (try clear hb2); (try clear hk); (try clear hi)))
    go_ret
    exact ⟨_, erf, (hrnR HO72003), pIIsS141 HI0, hbIsS141, hkk⟩
def spec_l01Cur_badEdit.f (k : Nat) (s0_0 : List Int) (s0_1 : Int) (s0_2 : Int) (l1 : List Int) : Option (Int × Int × List Int × Int × Int) := (spec_l01Cur_edit.f k s0_0 s0_1 s0_2 l1).bind fun bt73002 => ((spec_l01Cur_pick.f s0_0 bt73002.2.2.2.1 bt73002.2.2.2.2 12).bind fun bt73010 => (if bt73010.1 = 0 then ((spec_l01Cur_raw.f s0_0 bt73010.2.1 bt73010.2.2).bind fun bt73013 => (some (bt73013.1, bt73002.2.1, bt73002.2.2.1, bt73013.2.1, bt73013.2.2))) else (if bt73010.1 = 1 then ((spec_l01Cur_raw.f s0_0 bt73010.2.1 bt73010.2.2).bind fun bt73016 => (some (bt73002.1, bt73016.1, bt73002.2.2.1, bt73016.2.1, bt73016.2.2))) else (if bt73010.1 = 2 then ((spec_l01Cur_badText.f k s0_0 bt73010.2.1 bt73010.2.2 9).bind fun bt73019 => (some (bt73002.1, bt73002.2.1, bt73019.1, bt73019.2.1, bt73019.2.2))) else (if bt73010.1 = 3 then ((spec_l01Cur_pick.f s0_0 bt73010.2.1 bt73010.2.2 3).bind fun bt73024 => (if 0 ≤ (wrap64 ((wrap64 (400 - (l1.length : Int))) + bt73024.1)) then (if (wrap64 ((wrap64 (400 - (l1.length : Int))) + bt73024.1) : Int).toNat ≤ 281474976710656 then (some (bt73002.1, bt73002.2.1, (List.replicate (wrap64 ((wrap64 (400 - (l1.length : Int))) + bt73024.1) : Int).toNat 0), bt73024.2.1, bt73024.2.2)) else (none)) else (none))) else (some (bt73002.1, bt73002.2.1, bt73002.2.2.1, bt73010.2.1, bt73010.2.2)))))))
set_option maxHeartbeats 8000000 in
set_option maxRecDepth 100000 in
theorem spec_l01Cur_badEdit.calls (k : Nat) (g : Nat) (s0_0 : List Int) (s0_1 : Int) (s0_2 : Int) (A1 : Option Addr) (c1 : Nat) (l1 : List Int) (r1 : Int) (r2 : Int) (r3 : List Int) (r4 : Int) (r5 : Int) (w0 w : World) (hI : IsS141 w0 w g s0_0 s0_1 s0_2) (hB : Below w0.heap.size w0 w) (hr1 : Kd.C (Kd.int .u8) w A1 l1.length l1) (hc1 : l1.length ≤ c1) (hf1 : ∀ ad, A1 = some ad → 0 < l1.length → ad.block ≠ g) (h : spec_l01Cur_badEdit.f k s0_0 s0_1 s0_2 l1 = some (r1, r2, r3, r4, r5)) :
  Calls Tryd.prog 72 #[.pointer (some ⟨g, 0, none⟩), .slice A1 l1.length c1] w fun e w' => ∃ v2_ : Value, e = .returned (.agg #[.int .i64 r1, .int .i64 r2, v2_]) ∧ Kd.R (Kd.int .u8) 5 w' w.heap.size (fun _ => True) v2_ r3 ∧ IsS141 w0 w' g s0_0 r4 r5 ∧ Below w0.heap.size w0 w' ∧ KeepBut w w' g none := by
 have hu25 := Tryd.underlying25
 have HR1 := Aside0.mk hr1
 have HC1 := Aside0.mk hc1
 clear hr1 hc1
 have HI0 := Aside0.mk hI
 have HK := Aside0.mk (KeepBut.refl w g none)
 have HL := Aside0.mk hB.size
 clear hI
 have HW0 := Aside0.mk hB.size
 have HB := Aside0.mk hB
 clear hB
 have H : ((spec_l01Cur_edit.f k s0_0 s0_1 s0_2 l1).bind fun bt73002 => ((spec_l01Cur_pick.f s0_0 bt73002.2.2.2.1 bt73002.2.2.2.2 12).bind fun bt73010 => (if bt73010.1 = 0 then ((spec_l01Cur_raw.f s0_0 bt73010.2.1 bt73010.2.2).bind fun bt73013 => (some (bt73013.1, bt73002.2.1, bt73002.2.2.1, bt73013.2.1, bt73013.2.2))) else (if bt73010.1 = 1 then ((spec_l01Cur_raw.f s0_0 bt73010.2.1 bt73010.2.2).bind fun bt73016 => (some (bt73002.1, bt73016.1, bt73002.2.2.1, bt73016.2.1, bt73016.2.2))) else (if bt73010.1 = 2 then ((spec_l01Cur_badText.f k s0_0 bt73010.2.1 bt73010.2.2 9).bind fun bt73019 => (some (bt73002.1, bt73002.2.1, bt73019.1, bt73019.2.1, bt73019.2.2))) else (if bt73010.1 = 3 then ((spec_l01Cur_pick.f s0_0 bt73010.2.1 bt73010.2.2 3).bind fun bt73024 => (if 0 ≤ (wrap64 ((wrap64 (400 - (l1.length : Int))) + bt73024.1)) then (if (wrap64 ((wrap64 (400 - (l1.length : Int))) + bt73024.1) : Int).toNat ≤ 281474976710656 then (some (bt73002.1, bt73002.2.1, (List.replicate (wrap64 ((wrap64 (400 - (l1.length : Int))) + bt73024.1) : Int).toNat 0), bt73024.2.1, bt73024.2.2)) else (none)) else (none))) else (some (bt73002.1, bt73002.2.1, bt73002.2.2.1, bt73010.2.1, bt73010.2.2)))))))) = some (r1, r2, r3, r4, r5) := h
 clear h
 replace H := Option.bind_eq_some_iff.mp H
 obtain ⟨⟨t73002, t73003, t73004, t73007, t73008⟩, A30, H⟩ := H
 replace H : ((spec_l01Cur_pick.f s0_0 t73007 t73008 12).bind fun bt73010 => (if bt73010.1 = 0 then ((spec_l01Cur_raw.f s0_0 bt73010.2.1 bt73010.2.2).bind fun bt73013 => (some (bt73013.1, t73003, t73004, bt73013.2.1, bt73013.2.2))) else (if bt73010.1 = 1 then ((spec_l01Cur_raw.f s0_0 bt73010.2.1 bt73010.2.2).bind fun bt73016 => (some (t73002, bt73016.1, t73004, bt73016.2.1, bt73016.2.2))) else (if bt73010.1 = 2 then ((spec_l01Cur_badText.f k s0_0 bt73010.2.1 bt73010.2.2 9).bind fun bt73019 => (some (t73002, t73003, bt73019.1, bt73019.2.1, bt73019.2.2))) else (if bt73010.1 = 3 then ((spec_l01Cur_pick.f s0_0 bt73010.2.1 bt73010.2.2 3).bind fun bt73024 => (if 0 ≤ (wrap64 ((wrap64 (400 - (l1.length : Int))) + bt73024.1)) then (if (wrap64 ((wrap64 (400 - (l1.length : Int))) + bt73024.1) : Int).toNat ≤ 281474976710656 then (some (t73002, t73003, (List.replicate (wrap64 ((wrap64 (400 - (l1.length : Int))) + bt73024.1) : Int).toNat 0), bt73024.2.1, bt73024.2.2)) else (none)) else (none))) else (some (t73002, t73003, t73004, bt73010.2.1, bt73010.2.2))))))) = some (r1, r2, r3, r4, r5) := H
 have A3 := Aside0.mk A30
 clear A30
 replace H := Option.bind_eq_some_iff.mp H
 obtain ⟨⟨t73010, t73011, t73012⟩, A40, H⟩ := H
 replace H : (if t73010 = 0 then ((spec_l01Cur_raw.f s0_0 t73011 t73012).bind fun bt73013 => (some (bt73013.1, t73003, t73004, bt73013.2.1, bt73013.2.2))) else (if t73010 = 1 then ((spec_l01Cur_raw.f s0_0 t73011 t73012).bind fun bt73016 => (some (t73002, bt73016.1, t73004, bt73016.2.1, bt73016.2.2))) else (if t73010 = 2 then ((spec_l01Cur_badText.f k s0_0 t73011 t73012 9).bind fun bt73019 => (some (t73002, t73003, bt73019.1, bt73019.2.1, bt73019.2.2))) else (if t73010 = 3 then ((spec_l01Cur_pick.f s0_0 t73011 t73012 3).bind fun bt73024 => (if 0 ≤ (wrap64 ((wrap64 (400 - (l1.length : Int))) + bt73024.1)) then (if (wrap64 ((wrap64 (400 - (l1.length : Int))) + bt73024.1) : Int).toNat ≤ 281474976710656 then (some (t73002, t73003, (List.replicate (wrap64 ((wrap64 (400 - (l1.length : Int))) + bt73024.1) : Int).toNat 0), bt73024.2.1, bt73024.2.2)) else (none)) else (none))) else (some (t73002, t73003, t73004, t73011, t73012)))))) = some (r1, r2, r3, r4, r5) := H
 have A4 := Aside0.mk A40
 clear A40
 by_cases c5 : t73010 = 0
 ·rw [if_pos c5] at H
  have c5b0 : (t73010 == 0) = true := beq_iff_eq.mpr c5
  have c5b1 : (t73010 != 0) = false := bne_eq_false_iff_eq.mpr c5
  clear c5
  replace H := Option.bind_eq_some_iff.mp H
  obtain ⟨⟨t73013, t73014, t73015⟩, A60, H⟩ := H
  replace H : (some (t73013, t73003, t73004, t73014, t73015)) = some (r1, r2, r3, r4, r5) := H
  have A6 := Aside0.mk A60
  clear A60
  simp only [Option.some.injEq, Prod.mk.injEq] at H
  obtain ⟨rfl, rfl, rfl, rfl, rfl⟩ := H
  go_enter Tryd.func72, Tryd.ntmps72
  go_wp2_with (first | ((with_reducible refine gate_dst (N := 4) rfl ?_); refine boxE 4 #[.int .i64 0, .int .i64 0, .slice none 0 0] 25 ?_; intro gb73001 hg w7 BK73001 hb; have GW73001 := Aside0.mk ((by rw [hg]; exact (keep_size (w := w) (g := g) (row := none) hkk) : w.heap.size ≤ gb73001)); have GE73001 := Aside0.mk ((Nat.le_trans HW0.out (by rw [hg]; exact (keep_size (w := w) (g := g) (row := none) hkk) : w.heap.size ≤ gb73001) : w0.heap.size ≤ gb73001)); have NB0_73001 := Aside0.mk ((by rw [hg]; exact Nat.ne_of_lt (IsS141.lt (show IsS141 w0 _ g s0_0 s0_1 s0_2 from pIIsS141 HI0)) : g ≠ gb73001)); have NB73001_0 := Aside0.mk ((by rw [hg]; exact Nat.ne_of_gt (IsS141.lt (show IsS141 w0 _ g s0_0 s0_1 s0_2 from pIIsS141 HI0)) : gb73001 ≠ g)); replace HK := Aside0.mk (KeepBut.trans hkk (KeepBut.of_below hb g none) (.inl rfl)); replace HB := Aside0.mk (below_step hbIsS141 hb); replace HI0 := Aside0.mk (IsS141.below (pIIsS141 HI0) hb); clear hb hg) | ((with_reducible refine gate_callee (f := 63) rfl ?_); refine goesM (some 8) Tryd.func63 #[.pointer (some ⟨g, 0, none⟩), .slice A1 l1.length c1] ?_; (with_reducible refine (spec_l01Cur_edit.calls k g s0_0 s0_1 s0_2 _ _ l1 t73002 t73003 t73004 t73007 t73008 w0 _ ?side1 ?side2 ?side3 ?side4 ?side5 A3.out).mono ?_); (case side1 => exact pIIsS141 HI0); (case side2 => exact hbIsS141); (case side3 => exact Kd.C_keep 0 HR1.out (by repeat (first | (with_reducible first | exact HK.out | apply KeepBut.set_ | apply keep_drewN | apply keep_drew | apply keep_alloc | refine keep_far ?_ GW73001.out _) | exact HK.out)) hf1); (case side4 => exact HC1.out); (case side5 => exact hf1); rintro e w8 ⟨v73005, rfl, ho0, hi, hb, hk⟩; refine ⟨_, rfl, ?_⟩; have HO73006 := Aside0.mk (Kd.R_lower ho0 (keep_size (w := w) (g := g) (row := none) (by repeat (first | (with_reducible first | exact HK.out | apply KeepBut.set_ | apply keep_drewN | apply keep_drew | apply keep_alloc | refine keep_far ?_ GW73001.out _) | exact HK.out)))); replace BK73001 := Aside0.mk (bkk hk BK73001 NB73001_0.out); replace HK := Aside0.mk (KeepBut.trans (by repeat (first | (with_reducible first | exact HK.out | apply KeepBut.set_ | apply keep_drewN | apply keep_drew | apply keep_alloc | refine keep_far ?_ GW73001.out _) | exact HK.out)) hk (.inl rfl)); replace HB := Aside0.mk (hb); replace HI0 := Aside0.mk (hi); (try clear hb); (try clear hb2); (try clear hk); (try clear hi); (try clear ho0)) | ((with_reducible refine gate_dst (N := 5) rfl ?_); refine boxE 5 #[.int .i64 0, .int .i64 0, .slice none 0 0] 25 ?_; intro gb73009 hg w9 BK73009 hb; have GW73009 := Aside0.mk ((by rw [hg]; exact (keep_size (w := w) (g := g) (row := none) (by repeat (first | (with_reducible first | exact HK.out | apply KeepBut.set_ | apply keep_drewN | apply keep_drew | apply keep_alloc | refine keep_far ?_ GW73001.out _) | exact HK.out))) : w.heap.size ≤ gb73009)); have GE73009 := Aside0.mk ((Nat.le_trans HW0.out (by rw [hg]; exact (keep_size (w := w) (g := g) (row := none) (by repeat (first | (with_reducible first | exact HK.out | apply KeepBut.set_ | apply keep_drewN | apply keep_drew | apply keep_alloc | refine keep_far ?_ GW73001.out _) | exact HK.out))) : w.heap.size ≤ gb73009) : w0.heap.size ≤ gb73009)); have NB73001_73009 := Aside0.mk (nbl BK73001 hg); have NB73009_73001 := Aside0.mk (nbg BK73001 hg); have NB0_73009 := Aside0.mk ((by rw [hg]; exact Nat.ne_of_lt (IsS141.lt (show IsS141 w0 _ g s0_0 t73007 t73008 from pIIsS141 HI0)) : g ≠ gb73009)); have NB73009_0 := Aside0.mk ((by rw [hg]; exact Nat.ne_of_gt (IsS141.lt (show IsS141 w0 _ g s0_0 t73007 t73008 from pIIsS141 HI0)) : gb73009 ≠ g)); replace HO73006 := Aside0.mk (Kd.R_below (hrnR HO73006) hb); replace BK73001 := Aside0.mk (bkb BK73001 hb); replace HK := Aside0.mk (KeepBut.trans (by repeat (first | (with_reducible first | exact HK.out | apply KeepBut.set_ | apply keep_drewN | apply keep_drew | apply keep_alloc | refine keep_far ?_ GW73001.out _) | exact HK.out)) (KeepBut.of_below hb g none) (.inl rfl)); replace HB := Aside0.mk (below_step hbIsS141 hb); replace HI0 := Aside0.mk (IsS141.below (pIIsS141 HI0) hb); clear hb hg; have hnb10 := NB73009_73001.out; have hnc10 := NB73001_73009.out; have hnb11 := NB73009_0.out; have hnc11 := NB0_73009.out; have hcz12_0 : w9.cell? ⟨gb73009, 0, none⟩ = some (.int .i64 0) := (blk_cell BK73009.out 0).trans rfl; have hcz12_1 : w9.cell? ⟨gb73009, 1, none⟩ = some (.int .i64 0) := (blk_cell BK73009.out 1).trans rfl; have hcz12_2 : w9.cell? ⟨gb73009, 2, none⟩ = some (.slice none 0 0) := (blk_cell BK73009.out 2).trans rfl; have hfz12_0 := blk_frozen BK73009.out 0; have hfz12_1 := blk_frozen BK73009.out 1; have hfz12_2 := blk_frozen BK73009.out 2; obtain ⟨Ao13, co13, eo13⟩ := Kd.R_slice HO73006.out; subst eo13) | ((with_reducible refine gate_callee (f := 64) rfl ?_); refine goesM (some 10) Tryd.func64 #[.pointer (some ⟨g, 0, none⟩), .int .i64 12] ?_; (with_reducible refine (spec_l01Cur_pick.calls g s0_0 t73007 t73008 12 t73010 t73011 t73012 w0 _ ?side1 ?side2 A4.out).mono ?_); (case side1 => exact pIIsS141 HI0); (case side2 => exact hbIsS141); rintro e w14 ⟨rfl, hi, hb, hk⟩; refine ⟨_, rfl, ?_⟩; replace BK73001 := Aside0.mk (KeepBut.blk hk (g' := gb73001) (o := .cells #[.int .i64 0, .int .i64 0, .slice none 0 0] 25 (0, 0)) (by refine pB ?_; refine blk_far ?_ NB73001_73009.out _; refine pB ?_; refine blk_far ?_ NB73001_73009.out _; refine pB ?_; refine blk_far ?_ NB73001_73009.out _; refine pB ?_; exact BK73001.out) NB73001_0.out (by simp)); replace HO73006 := Aside0.mk (Kd.R_mono (Kd.R_keep (IsS141.apart (show IsS141 w0 _ g s0_0 t73007 t73008 from pIIsS141 HI0) (by (with_reducible repeat (first | apply Kd.R_alloc | apply Kd.R_drewN | apply Kd.R_drew)); exact (Kd.R_mono (Kd.R_far (p := ⟨gb73009, 2, none⟩) (Kd.R_far (p := ⟨gb73009, 1, none⟩) (Kd.R_far (p := ⟨gb73009, 0, none⟩) (Kd.R_types HO73006.out BK73009.out (by decide)) (fun _ hk => hk.2) (.int .i64 t73002)) (fun _ hk => hk.2) (.int .i64 t73003)) (fun _ hk => hk.2) (.slice Ao13 t73004.length co13)) (fun _ h_ => h_.1))) (by decide)) hk (fun _ h => h.2)) (fun _ h => h.1)); replace BK73009 := Aside0.mk (KeepBut.blk hk (g' := gb73009) (o := .cells #[.int .i64 t73002, .int .i64 t73003, .slice Ao13 t73004.length co13] 25 (0, 0)) (by refine pB ?_; refine blk_put (cs := #[.int .i64 t73002, .int .i64 t73003, .slice none 0 0]) ?_ 2 _ rfl; refine pB ?_; refine blk_put (cs := #[.int .i64 t73002, .int .i64 0, .slice none 0 0]) ?_ 1 _ rfl; refine pB ?_; refine blk_put (cs := #[.int .i64 0, .int .i64 0, .slice none 0 0]) ?_ 0 _ rfl; refine pB ?_; exact BK73009.out) NB73009_0.out (by simp)); replace HK := Aside0.mk (KeepBut.trans (by repeat (first | (with_reducible first | exact HK.out | apply KeepBut.set_ | apply keep_drewN | apply keep_drew | apply keep_alloc | refine keep_far ?_ GW73001.out _ | refine keep_far ?_ GW73009.out _) | exact HK.out)) hk (.inl rfl)); replace HB := Aside0.mk (hb); replace HI0 := Aside0.mk (hi); (try clear hb); (try clear hb2); (try clear hk); (try clear hi)) | ((with_reducible refine gate_callee (f := 65) rfl ?_); refine goesM (some 14) Tryd.func65 #[.pointer (some ⟨g, 0, none⟩)] ?_; (with_reducible refine (spec_l01Cur_raw.calls g s0_0 t73011 t73012 t73013 t73014 t73015 w0 _ ?side1 ?side2 A6.out).mono ?_); (case side1 => exact pIIsS141 HI0); (case side2 => exact hbIsS141); rintro e w15 ⟨rfl, hi, hb, hk⟩; refine ⟨_, rfl, ?_⟩; replace BK73001 := Aside0.mk (bkk hk BK73001 NB73001_0.out); replace HO73006 := Aside0.mk (Kd.R_mono (Kd.R_keep (IsS141.apart (show IsS141 w0 _ g s0_0 t73011 t73012 from pIIsS141 HI0) (hrnR HO73006) (by decide)) hk (fun _ h => h.2)) (fun _ h => h.1)); replace BK73009 := Aside0.mk (bkk hk BK73009 NB73009_0.out); replace HK := Aside0.mk (KeepBut.trans (by repeat (first | (with_reducible first | exact HK.out | apply KeepBut.set_ | apply keep_drewN | apply keep_drew | apply keep_alloc | refine keep_far ?_ GW73001.out _ | refine keep_far ?_ GW73009.out _) | exact HK.out)) hk (.inl rfl)); replace HB := Aside0.mk (hb); replace HI0 := Aside0.mk (hi); (try clear hb); (try clear hb2); (try clear hk); (try clear hi); have hcz16_0 : w15.cell? ⟨gb73009, 0, none⟩ = some (.int .i64 t73002) := (blk_cell BK73009.out 0).trans rfl; have hcz16_1 : w15.cell? ⟨gb73009, 1, none⟩ = some (.int .i64 t73003) := (blk_cell BK73009.out 1).trans rfl; have hcz16_2 : w15.cell? ⟨gb73009, 2, none⟩ = some (.slice Ao13 t73004.length co13) := (blk_cell BK73009.out 2).trans rfl; have hfz16_0 := blk_frozen BK73009.out 0; have hfz16_1 := blk_frozen BK73009.out 1; have hfz16_2 := blk_frozen BK73009.out 2; have hnb17 := NB73001_0.out; have hnc17 := NB0_73001.out; have hcz18_0 : w15.cell? ⟨gb73001, 0, none⟩ = some (.int .i64 0) := (blk_cell BK73001.out 0).trans rfl; have hcz18_1 : w15.cell? ⟨gb73001, 1, none⟩ = some (.int .i64 0) := (blk_cell BK73001.out 1).trans rfl; have hcz18_2 : w15.cell? ⟨gb73001, 2, none⟩ = some (.slice none 0 0) := (blk_cell BK73001.out 2).trans rfl; have hfz18_0 := blk_frozen BK73001.out 0; have hfz18_1 := blk_frozen BK73001.out 1; have hfz18_2 := blk_frozen BK73001.out 2))
  refine bodyPost_ret (results_cell_row rfl _ _ gb73001 25 #[.int .i64 t73013, .int .i64 t73003, .slice Ao13 t73004.length co13] (0, 0) _ rfl (by refine pB ?_; refine blk_put (cs := #[.int .i64 t73013, .int .i64 t73003, .slice none 0 0]) ?_ 2 _ rfl; refine pB ?_; refine blk_put (cs := #[.int .i64 t73013, .int .i64 0, .slice none 0 0]) ?_ 1 _ rfl; refine pB ?_; refine blk_put (cs := #[.int .i64 0, .int .i64 0, .slice none 0 0]) ?_ 0 _ rfl; refine pB ?_; refine blk_far ?_ NB73001_73009.out _; refine pB ?_; exact BK73001.out) Tryd.underlying25 rfl (by kernel_rfl)) rfl ?_
  exact ⟨_, erf, by (with_reducible repeat (first | apply Kd.R_alloc | apply Kd.R_drewN | apply Kd.R_drew)); exact Kd.R_mono (Kd.R_far (p := ⟨gb73001, 2, none⟩) (Kd.R_far (p := ⟨gb73001, 1, none⟩) (Kd.R_far (p := ⟨gb73001, 0, none⟩) (Kd.R_far (p := ⟨gb73009, 0, none⟩) (Kd.R_types (Kd.R_types HO73006.out BK73009.out (by decide)) BK73001.out (by decide)) (fun _ hk => hk.1.2) (.int .i64 t73013)) (fun _ hk => hk.2) (.int .i64 t73013)) (fun _ hk => hk.2) (.int .i64 t73003)) (fun _ hk => hk.2) (.slice Ao13 t73004.length co13)) (fun _ hk => trivial), pIIsS141 HI0, hbIsS141, by repeat (first | (with_reducible first | exact HK.out | apply KeepBut.set_ | apply keep_drewN | apply keep_drew | apply keep_alloc | refine keep_far ?_ GW73001.out _ | refine keep_far ?_ GW73009.out _) | exact HK.out)⟩
 ·rw [if_neg c5] at H
  have c5b0 : (t73010 == 0) = false := beq_eq_false_iff_ne.mpr c5
  have c5b1 : (t73010 != 0) = true := bne_iff_ne.mpr c5
  by_cases c19 : t73010 = 1
  ·rw [if_pos c19] at H
   have c19b0 : (t73010 == 1) = true := beq_iff_eq.mpr c19
   have c19b1 : (t73010 != 1) = false := bne_eq_false_iff_eq.mpr c19
   clear c19
   replace H := Option.bind_eq_some_iff.mp H
   obtain ⟨⟨t73016, t73017, t73018⟩, A200, H⟩ := H
   replace H : (some (t73002, t73016, t73004, t73017, t73018)) = some (r1, r2, r3, r4, r5) := H
   have A20 := Aside0.mk A200
   clear A200
   simp only [Option.some.injEq, Prod.mk.injEq] at H
   obtain ⟨rfl, rfl, rfl, rfl, rfl⟩ := H
   go_enter Tryd.func72, Tryd.ntmps72
   go_wp2_with (first | ((with_reducible refine gate_dst (N := 4) rfl ?_); refine boxE 4 #[.int .i64 0, .int .i64 0, .slice none 0 0] 25 ?_; intro gb73001 hg w21 BK73001 hb; have GW73001 := Aside0.mk ((by rw [hg]; exact (keep_size (w := w) (g := g) (row := none) hkk) : w.heap.size ≤ gb73001)); have GE73001 := Aside0.mk ((Nat.le_trans HW0.out (by rw [hg]; exact (keep_size (w := w) (g := g) (row := none) hkk) : w.heap.size ≤ gb73001) : w0.heap.size ≤ gb73001)); have NB0_73001 := Aside0.mk ((by rw [hg]; exact Nat.ne_of_lt (IsS141.lt (show IsS141 w0 _ g s0_0 s0_1 s0_2 from pIIsS141 HI0)) : g ≠ gb73001)); have NB73001_0 := Aside0.mk ((by rw [hg]; exact Nat.ne_of_gt (IsS141.lt (show IsS141 w0 _ g s0_0 s0_1 s0_2 from pIIsS141 HI0)) : gb73001 ≠ g)); replace HK := Aside0.mk (KeepBut.trans hkk (KeepBut.of_below hb g none) (.inl rfl)); replace HB := Aside0.mk (below_step hbIsS141 hb); replace HI0 := Aside0.mk (IsS141.below (pIIsS141 HI0) hb); clear hb hg) | ((with_reducible refine gate_callee (f := 63) rfl ?_); refine goesM (some 8) Tryd.func63 #[.pointer (some ⟨g, 0, none⟩), .slice A1 l1.length c1] ?_; (with_reducible refine (spec_l01Cur_edit.calls k g s0_0 s0_1 s0_2 _ _ l1 t73002 t73003 t73004 t73007 t73008 w0 _ ?side1 ?side2 ?side3 ?side4 ?side5 A3.out).mono ?_); (case side1 => exact pIIsS141 HI0); (case side2 => exact hbIsS141); (case side3 => exact Kd.C_keep 0 HR1.out (by repeat (first | (with_reducible first | exact HK.out | apply KeepBut.set_ | apply keep_drewN | apply keep_drew | apply keep_alloc | refine keep_far ?_ GW73001.out _) | exact HK.out)) hf1); (case side4 => exact HC1.out); (case side5 => exact hf1); rintro e w22 ⟨v73005, rfl, ho0, hi, hb, hk⟩; refine ⟨_, rfl, ?_⟩; have HO73006 := Aside0.mk (Kd.R_lower ho0 (keep_size (w := w) (g := g) (row := none) (by repeat (first | (with_reducible first | exact HK.out | apply KeepBut.set_ | apply keep_drewN | apply keep_drew | apply keep_alloc | refine keep_far ?_ GW73001.out _) | exact HK.out)))); replace BK73001 := Aside0.mk (bkk hk BK73001 NB73001_0.out); replace HK := Aside0.mk (KeepBut.trans (by repeat (first | (with_reducible first | exact HK.out | apply KeepBut.set_ | apply keep_drewN | apply keep_drew | apply keep_alloc | refine keep_far ?_ GW73001.out _) | exact HK.out)) hk (.inl rfl)); replace HB := Aside0.mk (hb); replace HI0 := Aside0.mk (hi); (try clear hb); (try clear hb2); (try clear hk); (try clear hi); (try clear ho0)) | ((with_reducible refine gate_dst (N := 5) rfl ?_); refine boxE 5 #[.int .i64 0, .int .i64 0, .slice none 0 0] 25 ?_; intro gb73009 hg w23 BK73009 hb; have GW73009 := Aside0.mk ((by rw [hg]; exact (keep_size (w := w) (g := g) (row := none) (by repeat (first | (with_reducible first | exact HK.out | apply KeepBut.set_ | apply keep_drewN | apply keep_drew | apply keep_alloc | refine keep_far ?_ GW73001.out _) | exact HK.out))) : w.heap.size ≤ gb73009)); have GE73009 := Aside0.mk ((Nat.le_trans HW0.out (by rw [hg]; exact (keep_size (w := w) (g := g) (row := none) (by repeat (first | (with_reducible first | exact HK.out | apply KeepBut.set_ | apply keep_drewN | apply keep_drew | apply keep_alloc | refine keep_far ?_ GW73001.out _) | exact HK.out))) : w.heap.size ≤ gb73009) : w0.heap.size ≤ gb73009)); have NB73001_73009 := Aside0.mk (nbl BK73001 hg); have NB73009_73001 := Aside0.mk (nbg BK73001 hg); have NB0_73009 := Aside0.mk ((by rw [hg]; exact Nat.ne_of_lt (IsS141.lt (show IsS141 w0 _ g s0_0 t73007 t73008 from pIIsS141 HI0)) : g ≠ gb73009)); have NB73009_0 := Aside0.mk ((by rw [hg]; exact Nat.ne_of_gt (IsS141.lt (show IsS141 w0 _ g s0_0 t73007 t73008 from pIIsS141 HI0)) : gb73009 ≠ g)); replace HO73006 := Aside0.mk (Kd.R_below (hrnR HO73006) hb); replace BK73001 := Aside0.mk (bkb BK73001 hb); replace HK := Aside0.mk (KeepBut.trans (by repeat (first | (with_reducible first | exact HK.out | apply KeepBut.set_ | apply keep_drewN | apply keep_drew | apply keep_alloc | refine keep_far ?_ GW73001.out _) | exact HK.out)) (KeepBut.of_below hb g none) (.inl rfl)); replace HB := Aside0.mk (below_step hbIsS141 hb); replace HI0 := Aside0.mk (IsS141.below (pIIsS141 HI0) hb); clear hb hg; have hnb24 := NB73009_73001.out; have hnc24 := NB73001_73009.out; have hnb25 := NB73009_0.out; have hnc25 := NB0_73009.out; have hcz26_0 : w23.cell? ⟨gb73009, 0, none⟩ = some (.int .i64 0) := (blk_cell BK73009.out 0).trans rfl; have hcz26_1 : w23.cell? ⟨gb73009, 1, none⟩ = some (.int .i64 0) := (blk_cell BK73009.out 1).trans rfl; have hcz26_2 : w23.cell? ⟨gb73009, 2, none⟩ = some (.slice none 0 0) := (blk_cell BK73009.out 2).trans rfl; have hfz26_0 := blk_frozen BK73009.out 0; have hfz26_1 := blk_frozen BK73009.out 1; have hfz26_2 := blk_frozen BK73009.out 2; obtain ⟨Ao27, co27, eo27⟩ := Kd.R_slice HO73006.out; subst eo27) | ((with_reducible refine gate_callee (f := 64) rfl ?_); refine goesM (some 10) Tryd.func64 #[.pointer (some ⟨g, 0, none⟩), .int .i64 12] ?_; (with_reducible refine (spec_l01Cur_pick.calls g s0_0 t73007 t73008 12 t73010 t73011 t73012 w0 _ ?side1 ?side2 A4.out).mono ?_); (case side1 => exact pIIsS141 HI0); (case side2 => exact hbIsS141); rintro e w28 ⟨rfl, hi, hb, hk⟩; refine ⟨_, rfl, ?_⟩; replace BK73001 := Aside0.mk (KeepBut.blk hk (g' := gb73001) (o := .cells #[.int .i64 0, .int .i64 0, .slice none 0 0] 25 (0, 0)) (by refine pB ?_; refine blk_far ?_ NB73001_73009.out _; refine pB ?_; refine blk_far ?_ NB73001_73009.out _; refine pB ?_; refine blk_far ?_ NB73001_73009.out _; refine pB ?_; exact BK73001.out) NB73001_0.out (by simp)); replace HO73006 := Aside0.mk (Kd.R_mono (Kd.R_keep (IsS141.apart (show IsS141 w0 _ g s0_0 t73007 t73008 from pIIsS141 HI0) (by (with_reducible repeat (first | apply Kd.R_alloc | apply Kd.R_drewN | apply Kd.R_drew)); exact (Kd.R_mono (Kd.R_far (p := ⟨gb73009, 2, none⟩) (Kd.R_far (p := ⟨gb73009, 1, none⟩) (Kd.R_far (p := ⟨gb73009, 0, none⟩) (Kd.R_types HO73006.out BK73009.out (by decide)) (fun _ hk => hk.2) (.int .i64 t73002)) (fun _ hk => hk.2) (.int .i64 t73003)) (fun _ hk => hk.2) (.slice Ao27 t73004.length co27)) (fun _ h_ => h_.1))) (by decide)) hk (fun _ h => h.2)) (fun _ h => h.1)); replace BK73009 := Aside0.mk (KeepBut.blk hk (g' := gb73009) (o := .cells #[.int .i64 t73002, .int .i64 t73003, .slice Ao27 t73004.length co27] 25 (0, 0)) (by refine pB ?_; refine blk_put (cs := #[.int .i64 t73002, .int .i64 t73003, .slice none 0 0]) ?_ 2 _ rfl; refine pB ?_; refine blk_put (cs := #[.int .i64 t73002, .int .i64 0, .slice none 0 0]) ?_ 1 _ rfl; refine pB ?_; refine blk_put (cs := #[.int .i64 0, .int .i64 0, .slice none 0 0]) ?_ 0 _ rfl; refine pB ?_; exact BK73009.out) NB73009_0.out (by simp)); replace HK := Aside0.mk (KeepBut.trans (by repeat (first | (with_reducible first | exact HK.out | apply KeepBut.set_ | apply keep_drewN | apply keep_drew | apply keep_alloc | refine keep_far ?_ GW73001.out _ | refine keep_far ?_ GW73009.out _) | exact HK.out)) hk (.inl rfl)); replace HB := Aside0.mk (hb); replace HI0 := Aside0.mk (hi); (try clear hb); (try clear hb2); (try clear hk); (try clear hi)) | ((with_reducible refine gate_callee (f := 65) rfl ?_); refine goesM (some 19) Tryd.func65 #[.pointer (some ⟨g, 0, none⟩)] ?_; (with_reducible refine (spec_l01Cur_raw.calls g s0_0 t73011 t73012 t73016 t73017 t73018 w0 _ ?side1 ?side2 A20.out).mono ?_); (case side1 => exact pIIsS141 HI0); (case side2 => exact hbIsS141); rintro e w29 ⟨rfl, hi, hb, hk⟩; refine ⟨_, rfl, ?_⟩; replace BK73001 := Aside0.mk (bkk hk BK73001 NB73001_0.out); replace HO73006 := Aside0.mk (Kd.R_mono (Kd.R_keep (IsS141.apart (show IsS141 w0 _ g s0_0 t73011 t73012 from pIIsS141 HI0) (hrnR HO73006) (by decide)) hk (fun _ h => h.2)) (fun _ h => h.1)); replace BK73009 := Aside0.mk (bkk hk BK73009 NB73009_0.out); replace HK := Aside0.mk (KeepBut.trans (by repeat (first | (with_reducible first | exact HK.out | apply KeepBut.set_ | apply keep_drewN | apply keep_drew | apply keep_alloc | refine keep_far ?_ GW73001.out _ | refine keep_far ?_ GW73009.out _) | exact HK.out)) hk (.inl rfl)); replace HB := Aside0.mk (hb); replace HI0 := Aside0.mk (hi); (try clear hb); (try clear hb2); (try clear hk); (try clear hi); have hcz30_0 : w29.cell? ⟨gb73009, 0, none⟩ = some (.int .i64 t73002) := (blk_cell BK73009.out 0).trans rfl; have hcz30_1 : w29.cell? ⟨gb73009, 1, none⟩ = some (.int .i64 t73003) := (blk_cell BK73009.out 1).trans rfl; have hcz30_2 : w29.cell? ⟨gb73009, 2, none⟩ = some (.slice Ao27 t73004.length co27) := (blk_cell BK73009.out 2).trans rfl; have hfz30_0 := blk_frozen BK73009.out 0; have hfz30_1 := blk_frozen BK73009.out 1; have hfz30_2 := blk_frozen BK73009.out 2; have hnb31 := NB73001_0.out; have hnc31 := NB0_73001.out; have hcz32_0 : w29.cell? ⟨gb73001, 0, none⟩ = some (.int .i64 0) := (blk_cell BK73001.out 0).trans rfl; have hcz32_1 : w29.cell? ⟨gb73001, 1, none⟩ = some (.int .i64 0) := (blk_cell BK73001.out 1).trans rfl; have hcz32_2 : w29.cell? ⟨gb73001, 2, none⟩ = some (.slice none 0 0) := (blk_cell BK73001.out 2).trans rfl; have hfz32_0 := blk_frozen BK73001.out 0; have hfz32_1 := blk_frozen BK73001.out 1; have hfz32_2 := blk_frozen BK73001.out 2))
   refine bodyPost_ret (results_cell_row rfl _ _ gb73001 25 #[.int .i64 t73002, .int .i64 t73016, .slice Ao27 t73004.length co27] (0, 0) _ rfl (by refine pB ?_; refine blk_put (cs := #[.int .i64 t73002, .int .i64 t73016, .slice none 0 0]) ?_ 2 _ rfl; refine pB ?_; refine blk_put (cs := #[.int .i64 t73002, .int .i64 0, .slice none 0 0]) ?_ 1 _ rfl; refine pB ?_; refine blk_put (cs := #[.int .i64 0, .int .i64 0, .slice none 0 0]) ?_ 0 _ rfl; refine pB ?_; refine blk_far ?_ NB73001_73009.out _; refine pB ?_; exact BK73001.out) Tryd.underlying25 rfl (by kernel_rfl)) rfl ?_
   exact ⟨_, erf, by (with_reducible repeat (first | apply Kd.R_alloc | apply Kd.R_drewN | apply Kd.R_drew)); exact Kd.R_mono (Kd.R_far (p := ⟨gb73001, 2, none⟩) (Kd.R_far (p := ⟨gb73001, 1, none⟩) (Kd.R_far (p := ⟨gb73001, 0, none⟩) (Kd.R_far (p := ⟨gb73009, 1, none⟩) (Kd.R_types (Kd.R_types HO73006.out BK73009.out (by decide)) BK73001.out (by decide)) (fun _ hk => hk.1.2) (.int .i64 t73016)) (fun _ hk => hk.2) (.int .i64 t73002)) (fun _ hk => hk.2) (.int .i64 t73016)) (fun _ hk => hk.2) (.slice Ao27 t73004.length co27)) (fun _ hk => trivial), pIIsS141 HI0, hbIsS141, by repeat (first | (with_reducible first | exact HK.out | apply KeepBut.set_ | apply keep_drewN | apply keep_drew | apply keep_alloc | refine keep_far ?_ GW73001.out _ | refine keep_far ?_ GW73009.out _) | exact HK.out)⟩
  ·rw [if_neg c19] at H
   have c19b0 : (t73010 == 1) = false := beq_eq_false_iff_ne.mpr c19
   have c19b1 : (t73010 != 1) = true := bne_iff_ne.mpr c19
   by_cases c33 : t73010 = 2
   ·rw [if_pos c33] at H
    have c33b0 : (t73010 == 2) = true := beq_iff_eq.mpr c33
    have c33b1 : (t73010 != 2) = false := bne_eq_false_iff_eq.mpr c33
    clear c33
    replace H := Option.bind_eq_some_iff.mp H
    obtain ⟨⟨t73019, t73022, t73023⟩, A340, H⟩ := H
    replace H : (some (t73002, t73003, t73019, t73022, t73023)) = some (r1, r2, r3, r4, r5) := H
    have A34 := Aside0.mk A340
    clear A340
    simp only [Option.some.injEq, Prod.mk.injEq] at H
    obtain ⟨rfl, rfl, rfl, rfl, rfl⟩ := H
    go_enter Tryd.func72, Tryd.ntmps72
    go_wp2_with (first | ((with_reducible refine gate_dst (N := 4) rfl ?_); refine boxE 4 #[.int .i64 0, .int .i64 0, .slice none 0 0] 25 ?_; intro gb73001 hg w35 BK73001 hb; have GW73001 := Aside0.mk ((by rw [hg]; exact (keep_size (w := w) (g := g) (row := none) hkk) : w.heap.size ≤ gb73001)); have GE73001 := Aside0.mk ((Nat.le_trans HW0.out (by rw [hg]; exact (keep_size (w := w) (g := g) (row := none) hkk) : w.heap.size ≤ gb73001) : w0.heap.size ≤ gb73001)); have NB0_73001 := Aside0.mk ((by rw [hg]; exact Nat.ne_of_lt (IsS141.lt (show IsS141 w0 _ g s0_0 s0_1 s0_2 from pIIsS141 HI0)) : g ≠ gb73001)); have NB73001_0 := Aside0.mk ((by rw [hg]; exact Nat.ne_of_gt (IsS141.lt (show IsS141 w0 _ g s0_0 s0_1 s0_2 from pIIsS141 HI0)) : gb73001 ≠ g)); replace HK := Aside0.mk (KeepBut.trans hkk (KeepBut.of_below hb g none) (.inl rfl)); replace HB := Aside0.mk (below_step hbIsS141 hb); replace HI0 := Aside0.mk (IsS141.below (pIIsS141 HI0) hb); clear hb hg) | ((with_reducible refine gate_callee (f := 63) rfl ?_); refine goesM (some 8) Tryd.func63 #[.pointer (some ⟨g, 0, none⟩), .slice A1 l1.length c1] ?_; (with_reducible refine (spec_l01Cur_edit.calls k g s0_0 s0_1 s0_2 _ _ l1 t73002 t73003 t73004 t73007 t73008 w0 _ ?side1 ?side2 ?side3 ?side4 ?side5 A3.out).mono ?_); (case side1 => exact pIIsS141 HI0); (case side2 => exact hbIsS141); (case side3 => exact Kd.C_keep 0 HR1.out (by repeat (first | (with_reducible first | exact HK.out | apply KeepBut.set_ | apply keep_drewN | apply keep_drew | apply keep_alloc | refine keep_far ?_ GW73001.out _) | exact HK.out)) hf1); (case side4 => exact HC1.out); (case side5 => exact hf1); rintro e w36 ⟨v73005, rfl, ho0, hi, hb, hk⟩; refine ⟨_, rfl, ?_⟩; have HO73006 := Aside0.mk (Kd.R_lower ho0 (keep_size (w := w) (g := g) (row := none) (by repeat (first | (with_reducible first | exact HK.out | apply KeepBut.set_ | apply keep_drewN | apply keep_drew | apply keep_alloc | refine keep_far ?_ GW73001.out _) | exact HK.out)))); replace BK73001 := Aside0.mk (bkk hk BK73001 NB73001_0.out); replace HK := Aside0.mk (KeepBut.trans (by repeat (first | (with_reducible first | exact HK.out | apply KeepBut.set_ | apply keep_drewN | apply keep_drew | apply keep_alloc | refine keep_far ?_ GW73001.out _) | exact HK.out)) hk (.inl rfl)); replace HB := Aside0.mk (hb); replace HI0 := Aside0.mk (hi); (try clear hb); (try clear hb2); (try clear hk); (try clear hi); (try clear ho0)) | ((with_reducible refine gate_dst (N := 5) rfl ?_); refine boxE 5 #[.int .i64 0, .int .i64 0, .slice none 0 0] 25 ?_; intro gb73009 hg w37 BK73009 hb; have GW73009 := Aside0.mk ((by rw [hg]; exact (keep_size (w := w) (g := g) (row := none) (by repeat (first | (with_reducible first | exact HK.out | apply KeepBut.set_ | apply keep_drewN | apply keep_drew | apply keep_alloc | refine keep_far ?_ GW73001.out _) | exact HK.out))) : w.heap.size ≤ gb73009)); have GE73009 := Aside0.mk ((Nat.le_trans HW0.out (by rw [hg]; exact (keep_size (w := w) (g := g) (row := none) (by repeat (first | (with_reducible first | exact HK.out | apply KeepBut.set_ | apply keep_drewN | apply keep_drew | apply keep_alloc | refine keep_far ?_ GW73001.out _) | exact HK.out))) : w.heap.size ≤ gb73009) : w0.heap.size ≤ gb73009)); have NB73001_73009 := Aside0.mk (nbl BK73001 hg); have NB73009_73001 := Aside0.mk (nbg BK73001 hg); have NB0_73009 := Aside0.mk ((by rw [hg]; exact Nat.ne_of_lt (IsS141.lt (show IsS141 w0 _ g s0_0 t73007 t73008 from pIIsS141 HI0)) : g ≠ gb73009)); have NB73009_0 := Aside0.mk ((by rw [hg]; exact Nat.ne_of_gt (IsS141.lt (show IsS141 w0 _ g s0_0 t73007 t73008 from pIIsS141 HI0)) : gb73009 ≠ g)); replace HO73006 := Aside0.mk (Kd.R_below (hrnR HO73006) hb); replace BK73001 := Aside0.mk (bkb BK73001 hb); replace HK := Aside0.mk (KeepBut.trans (by repeat (first | (with_reducible first | exact HK.out | apply KeepBut.set_ | apply keep_drewN | apply keep_drew | apply keep_alloc | refine keep_far ?_ GW73001.out _) | exact HK.out)) (KeepBut.of_below hb g none) (.inl rfl)); replace HB := Aside0.mk (below_step hbIsS141 hb); replace HI0 := Aside0.mk (IsS141.below (pIIsS141 HI0) hb); clear hb hg; have hnb38 := NB73009_73001.out; have hnc38 := NB73001_73009.out; have hnb39 := NB73009_0.out; have hnc39 := NB0_73009.out; have hcz40_0 : w37.cell? ⟨gb73009, 0, none⟩ = some (.int .i64 0) := (blk_cell BK73009.out 0).trans rfl; have hcz40_1 : w37.cell? ⟨gb73009, 1, none⟩ = some (.int .i64 0) := (blk_cell BK73009.out 1).trans rfl; have hcz40_2 : w37.cell? ⟨gb73009, 2, none⟩ = some (.slice none 0 0) := (blk_cell BK73009.out 2).trans rfl; have hfz40_0 := blk_frozen BK73009.out 0; have hfz40_1 := blk_frozen BK73009.out 1; have hfz40_2 := blk_frozen BK73009.out 2; obtain ⟨Ao41, co41, eo41⟩ := Kd.R_slice HO73006.out; subst eo41) | ((with_reducible refine gate_callee (f := 64) rfl ?_); refine goesM (some 10) Tryd.func64 #[.pointer (some ⟨g, 0, none⟩), .int .i64 12] ?_; (with_reducible refine (spec_l01Cur_pick.calls g s0_0 t73007 t73008 12 t73010 t73011 t73012 w0 _ ?side1 ?side2 A4.out).mono ?_); (case side1 => exact pIIsS141 HI0); (case side2 => exact hbIsS141); rintro e w42 ⟨rfl, hi, hb, hk⟩; refine ⟨_, rfl, ?_⟩; replace BK73001 := Aside0.mk (KeepBut.blk hk (g' := gb73001) (o := .cells #[.int .i64 0, .int .i64 0, .slice none 0 0] 25 (0, 0)) (by refine pB ?_; refine blk_far ?_ NB73001_73009.out _; refine pB ?_; refine blk_far ?_ NB73001_73009.out _; refine pB ?_; refine blk_far ?_ NB73001_73009.out _; refine pB ?_; exact BK73001.out) NB73001_0.out (by simp)); replace HO73006 := Aside0.mk (Kd.R_mono (Kd.R_keep (IsS141.apart (show IsS141 w0 _ g s0_0 t73007 t73008 from pIIsS141 HI0) (by (with_reducible repeat (first | apply Kd.R_alloc | apply Kd.R_drewN | apply Kd.R_drew)); exact (Kd.R_mono (Kd.R_far (p := ⟨gb73009, 2, none⟩) (Kd.R_far (p := ⟨gb73009, 1, none⟩) (Kd.R_far (p := ⟨gb73009, 0, none⟩) (Kd.R_types HO73006.out BK73009.out (by decide)) (fun _ hk => hk.2) (.int .i64 t73002)) (fun _ hk => hk.2) (.int .i64 t73003)) (fun _ hk => hk.2) (.slice Ao41 t73004.length co41)) (fun _ h_ => h_.1))) (by decide)) hk (fun _ h => h.2)) (fun _ h => h.1)); replace BK73009 := Aside0.mk (KeepBut.blk hk (g' := gb73009) (o := .cells #[.int .i64 t73002, .int .i64 t73003, .slice Ao41 t73004.length co41] 25 (0, 0)) (by refine pB ?_; refine blk_put (cs := #[.int .i64 t73002, .int .i64 t73003, .slice none 0 0]) ?_ 2 _ rfl; refine pB ?_; refine blk_put (cs := #[.int .i64 t73002, .int .i64 0, .slice none 0 0]) ?_ 1 _ rfl; refine pB ?_; refine blk_put (cs := #[.int .i64 0, .int .i64 0, .slice none 0 0]) ?_ 0 _ rfl; refine pB ?_; exact BK73009.out) NB73009_0.out (by simp)); replace HK := Aside0.mk (KeepBut.trans (by repeat (first | (with_reducible first | exact HK.out | apply KeepBut.set_ | apply keep_drewN | apply keep_drew | apply keep_alloc | refine keep_far ?_ GW73001.out _ | refine keep_far ?_ GW73009.out _) | exact HK.out)) hk (.inl rfl)); replace HB := Aside0.mk (hb); replace HI0 := Aside0.mk (hi); (try clear hb); (try clear hb2); (try clear hk); (try clear hi)) | ((with_reducible refine gate_callee (f := 71) rfl ?_); refine goesM (some 24) Tryd.func71 #[.pointer (some ⟨g, 0, none⟩), .int .i64 9] ?_; (with_reducible refine (spec_l01Cur_badText.calls k g s0_0 t73011 t73012 9 t73019 t73022 t73023 w0 _ ?side1 ?side2 A34.out).mono ?_); (case side1 => exact pIIsS141 HI0); (case side2 => exact hbIsS141); rintro e w43 ⟨v73020, rfl, ho0, hi, hb, hk⟩; refine ⟨_, rfl, ?_⟩; have HO73021 := Aside0.mk (Kd.R_lower (Kd.R_new' ho0 (Kd.R_lt (hrnR HO73006))) (keep_size (w := w) (g := g) (row := none) (by repeat (first | (with_reducible first | exact HK.out | apply KeepBut.set_ | apply keep_drewN | apply keep_drew | apply keep_alloc | refine keep_far ?_ GW73001.out _ | refine keep_far ?_ GW73009.out _) | exact HK.out)))); replace BK73001 := Aside0.mk (bkk hk BK73001 NB73001_0.out); replace HO73006 := Aside0.mk (Kd.R_mono (Kd.R_told (Kd.R_oldK (IsS141.apart (show IsS141 w0 _ g s0_0 t73011 t73012 from pIIsS141 HI0) (hrnR HO73006) (by decide)) hk) (Kd.R_base ho0)) (fun _ h_ => h_.1)); replace BK73009 := Aside0.mk (bkk hk BK73009 NB73009_0.out); replace HK := Aside0.mk (KeepBut.trans (by repeat (first | (with_reducible first | exact HK.out | apply KeepBut.set_ | apply keep_drewN | apply keep_drew | apply keep_alloc | refine keep_far ?_ GW73001.out _ | refine keep_far ?_ GW73009.out _) | exact HK.out)) hk (.inl rfl)); replace HB := Aside0.mk (hb); replace HI0 := Aside0.mk (hi); (try clear hb); (try clear hb2); (try clear hk); (try clear hi); (try clear ho0); obtain ⟨Ao44, co44, eo44⟩ := Kd.R_slice HO73021.out; subst eo44; have hcz45_0 : w43.cell? ⟨gb73009, 0, none⟩ = some (.int .i64 t73002) := (blk_cell BK73009.out 0).trans rfl; have hcz45_1 : w43.cell? ⟨gb73009, 1, none⟩ = some (.int .i64 t73003) := (blk_cell BK73009.out 1).trans rfl; have hcz45_2 : w43.cell? ⟨gb73009, 2, none⟩ = some (.slice Ao41 t73004.length co41) := (blk_cell BK73009.out 2).trans rfl; have hfz45_0 := blk_frozen BK73009.out 0; have hfz45_1 := blk_frozen BK73009.out 1; have hfz45_2 := blk_frozen BK73009.out 2; have hnb46 := NB73001_0.out; have hnc46 := NB0_73001.out; have hcz47_0 : w43.cell? ⟨gb73001, 0, none⟩ = some (.int .i64 0) := (blk_cell BK73001.out 0).trans rfl; have hcz47_1 : w43.cell? ⟨gb73001, 1, none⟩ = some (.int .i64 0) := (blk_cell BK73001.out 1).trans rfl; have hcz47_2 : w43.cell? ⟨gb73001, 2, none⟩ = some (.slice none 0 0) := (blk_cell BK73001.out 2).trans rfl; have hfz47_0 := blk_frozen BK73001.out 0; have hfz47_1 := blk_frozen BK73001.out 1; have hfz47_2 := blk_frozen BK73001.out 2))
    refine bodyPost_ret (results_cell_row rfl _ _ gb73001 25 #[.int .i64 t73002, .int .i64 t73003, .slice Ao44 t73019.length co44] (0, 0) _ rfl (by refine pB ?_; refine blk_put (cs := #[.int .i64 t73002, .int .i64 t73003, .slice none 0 0]) ?_ 2 _ rfl; refine pB ?_; refine blk_put (cs := #[.int .i64 t73002, .int .i64 0, .slice none 0 0]) ?_ 1 _ rfl; refine pB ?_; refine blk_put (cs := #[.int .i64 0, .int .i64 0, .slice none 0 0]) ?_ 0 _ rfl; refine pB ?_; refine blk_far ?_ NB73001_73009.out _; refine pB ?_; exact BK73001.out) Tryd.underlying25 rfl (by kernel_rfl)) rfl ?_
    exact ⟨_, erf, by (with_reducible repeat (first | apply Kd.R_alloc | apply Kd.R_drewN | apply Kd.R_drew)); exact Kd.R_mono (Kd.R_far (p := ⟨gb73001, 2, none⟩) (Kd.R_far (p := ⟨gb73001, 1, none⟩) (Kd.R_far (p := ⟨gb73001, 0, none⟩) (Kd.R_far (p := ⟨gb73009, 2, none⟩) (Kd.R_types (Kd.R_types HO73021.out BK73009.out (by decide)) BK73001.out (by decide)) (fun _ hk => hk.1.2) (.slice Ao44 t73019.length co44)) (fun _ hk => hk.2) (.int .i64 t73002)) (fun _ hk => hk.2) (.int .i64 t73003)) (fun _ hk => hk.2) (.slice Ao44 t73019.length co44)) (fun _ hk => trivial), pIIsS141 HI0, hbIsS141, by repeat (first | (with_reducible first | exact HK.out | apply KeepBut.set_ | apply keep_drewN | apply keep_drew | apply keep_alloc | refine keep_far ?_ GW73001.out _ | refine keep_far ?_ GW73009.out _) | exact HK.out)⟩
   ·rw [if_neg c33] at H
    have c33b0 : (t73010 == 2) = false := beq_eq_false_iff_ne.mpr c33
    have c33b1 : (t73010 != 2) = true := bne_iff_ne.mpr c33
    by_cases c48 : t73010 = 3
    ·rw [if_pos c48] at H
     have c48b0 : (t73010 == 3) = true := beq_iff_eq.mpr c48
     have c48b1 : (t73010 != 3) = false := bne_eq_false_iff_eq.mpr c48
     clear c48
     replace H := Option.bind_eq_some_iff.mp H
     obtain ⟨⟨t73024, t73025, t73026⟩, A490, H⟩ := H
     replace H : (if 0 ≤ (wrap64 ((wrap64 (400 - (l1.length : Int))) + t73024)) then (if (wrap64 ((wrap64 (400 - (l1.length : Int))) + t73024) : Int).toNat ≤ 281474976710656 then (some (t73002, t73003, (List.replicate (wrap64 ((wrap64 (400 - (l1.length : Int))) + t73024) : Int).toNat 0), t73025, t73026)) else (none)) else (none)) = some (r1, r2, r3, r4, r5) := H
     have A49 := Aside0.mk A490
     clear A490
     obtain ⟨ji50, hji50⟩ : ∃ j_ : Int, (wrap64 ((wrap64 (400 - (l1.length : Int))) + t73024)) = j_ := ⟨_, rfl⟩
     replace H : (if 0 ≤ (ji50) then (if (ji50 : Int).toNat ≤ 281474976710656 then (some (t73002, t73003, (List.replicate (ji50 : Int).toNat 0), t73025, t73026)) else (none)) else (none)) = some (r1, r2, r3, r4, r5) := by first | (rw [hji50] at H; exact H) | (simp only [hji50] at H ⊢; exact H)
     (try rw [hji50] at A3)
     (try rw [hji50] at A4)
     (try rw [hji50] at A49)
     have hji50w : (IntKind.i64.wrap ((wrap64 (400 - (l1.length : Int))) + t73024)) = ji50 := (i64_w _).trans hji50
     by_cases c51 : 0 ≤ (ji50)
     ·rw [if_pos c51] at H
      have c51b0 := eq_true c51
      have c51b1 : decide (0 ≤ (ji50)) = true := decide_eq_true c51
      clear c51
      by_cases c52 : (ji50 : Int).toNat ≤ 281474976710656
      ·rw [if_pos c52] at H
       have c52b0 := eq_true c52
       have c52b1 : decide ((ji50 : Int).toNat ≤ 281474976710656) = true := decide_eq_true c52
       clear c52
       obtain ⟨y73027, hy73027⟩ : ∃ y_ : List Int, y_ = (List.replicate (ji50 : Int).toNat 0) := ⟨_, rfl⟩
       replace H : (some (t73002, t73003, y73027, t73025, t73026)) = some (r1, r2, r3, r4, r5) := repH hy73027 H
       have Ny73027 := Aside0.mk hy73027
       clear hy73027
       simp only [Option.some.injEq, Prod.mk.injEq] at H
       obtain ⟨rfl, rfl, rfl, rfl, rfl⟩ := H
       go_enter Tryd.func72, Tryd.ntmps72
       go_wp2_with (first | ((with_reducible refine gate_dst (N := 4) rfl ?_); refine boxE 4 #[.int .i64 0, .int .i64 0, .slice none 0 0] 25 ?_; intro gb73001 hg w53 BK73001 hb; have GW73001 := Aside0.mk ((by rw [hg]; exact (keep_size (w := w) (g := g) (row := none) hkk) : w.heap.size ≤ gb73001)); have GE73001 := Aside0.mk ((Nat.le_trans HW0.out (by rw [hg]; exact (keep_size (w := w) (g := g) (row := none) hkk) : w.heap.size ≤ gb73001) : w0.heap.size ≤ gb73001)); have NB0_73001 := Aside0.mk ((by rw [hg]; exact Nat.ne_of_lt (IsS141.lt (show IsS141 w0 _ g s0_0 s0_1 s0_2 from pIIsS141 HI0)) : g ≠ gb73001)); have NB73001_0 := Aside0.mk ((by rw [hg]; exact Nat.ne_of_gt (IsS141.lt (show IsS141 w0 _ g s0_0 s0_1 s0_2 from pIIsS141 HI0)) : gb73001 ≠ g)); replace HK := Aside0.mk (KeepBut.trans hkk (KeepBut.of_below hb g none) (.inl rfl)); replace HB := Aside0.mk (below_step hbIsS141 hb); replace HI0 := Aside0.mk (IsS141.below (pIIsS141 HI0) hb); clear hb hg) | ((with_reducible refine gate_callee (f := 63) rfl ?_); refine goesM (some 8) Tryd.func63 #[.pointer (some ⟨g, 0, none⟩), .slice A1 l1.length c1] ?_; (with_reducible refine (spec_l01Cur_edit.calls k g s0_0 s0_1 s0_2 _ _ l1 t73002 t73003 t73004 t73007 t73008 w0 _ ?side1 ?side2 ?side3 ?side4 ?side5 A3.out).mono ?_); (case side1 => exact pIIsS141 HI0); (case side2 => exact hbIsS141); (case side3 => exact Kd.C_keep 0 HR1.out (by repeat (first | (with_reducible first | exact HK.out | apply KeepBut.set_ | apply keep_drewN | apply keep_drew | apply keep_alloc | refine keep_far ?_ GW73001.out _) | exact HK.out)) hf1); (case side4 => exact HC1.out); (case side5 => exact hf1); rintro e w54 ⟨v73005, rfl, ho0, hi, hb, hk⟩; refine ⟨_, rfl, ?_⟩; have HO73006 := Aside0.mk (Kd.R_lower ho0 (keep_size (w := w) (g := g) (row := none) (by repeat (first | (with_reducible first | exact HK.out | apply KeepBut.set_ | apply keep_drewN | apply keep_drew | apply keep_alloc | refine keep_far ?_ GW73001.out _) | exact HK.out)))); replace BK73001 := Aside0.mk (bkk hk BK73001 NB73001_0.out); replace HK := Aside0.mk (KeepBut.trans (by repeat (first | (with_reducible first | exact HK.out | apply KeepBut.set_ | apply keep_drewN | apply keep_drew | apply keep_alloc | refine keep_far ?_ GW73001.out _) | exact HK.out)) hk (.inl rfl)); replace HB := Aside0.mk (hb); replace HI0 := Aside0.mk (hi); (try clear hb); (try clear hb2); (try clear hk); (try clear hi); (try clear ho0)) | ((with_reducible refine gate_dst (N := 5) rfl ?_); refine boxE 5 #[.int .i64 0, .int .i64 0, .slice none 0 0] 25 ?_; intro gb73009 hg w55 BK73009 hb; have GW73009 := Aside0.mk ((by rw [hg]; exact (keep_size (w := w) (g := g) (row := none) (by repeat (first | (with_reducible first | exact HK.out | apply KeepBut.set_ | apply keep_drewN | apply keep_drew | apply keep_alloc | refine keep_far ?_ GW73001.out _) | exact HK.out))) : w.heap.size ≤ gb73009)); have GE73009 := Aside0.mk ((Nat.le_trans HW0.out (by rw [hg]; exact (keep_size (w := w) (g := g) (row := none) (by repeat (first | (with_reducible first | exact HK.out | apply KeepBut.set_ | apply keep_drewN | apply keep_drew | apply keep_alloc | refine keep_far ?_ GW73001.out _) | exact HK.out))) : w.heap.size ≤ gb73009) : w0.heap.size ≤ gb73009)); have NB73001_73009 := Aside0.mk (nbl BK73001 hg); have NB73009_73001 := Aside0.mk (nbg BK73001 hg); have NB0_73009 := Aside0.mk ((by rw [hg]; exact Nat.ne_of_lt (IsS141.lt (show IsS141 w0 _ g s0_0 t73007 t73008 from pIIsS141 HI0)) : g ≠ gb73009)); have NB73009_0 := Aside0.mk ((by rw [hg]; exact Nat.ne_of_gt (IsS141.lt (show IsS141 w0 _ g s0_0 t73007 t73008 from pIIsS141 HI0)) : gb73009 ≠ g)); replace HO73006 := Aside0.mk (Kd.R_below (hrnR HO73006) hb); replace BK73001 := Aside0.mk (bkb BK73001 hb); replace HK := Aside0.mk (KeepBut.trans (by repeat (first | (with_reducible first | exact HK.out | apply KeepBut.set_ | apply keep_drewN | apply keep_drew | apply keep_alloc | refine keep_far ?_ GW73001.out _) | exact HK.out)) (KeepBut.of_below hb g none) (.inl rfl)); replace HB := Aside0.mk (below_step hbIsS141 hb); replace HI0 := Aside0.mk (IsS141.below (pIIsS141 HI0) hb); clear hb hg; have hnb56 := NB73009_73001.out; have hnc56 := NB73001_73009.out; have hnb57 := NB73009_0.out; have hnc57 := NB0_73009.out; have hcz58_0 : w55.cell? ⟨gb73009, 0, none⟩ = some (.int .i64 0) := (blk_cell BK73009.out 0).trans rfl; have hcz58_1 : w55.cell? ⟨gb73009, 1, none⟩ = some (.int .i64 0) := (blk_cell BK73009.out 1).trans rfl; have hcz58_2 : w55.cell? ⟨gb73009, 2, none⟩ = some (.slice none 0 0) := (blk_cell BK73009.out 2).trans rfl; have hfz58_0 := blk_frozen BK73009.out 0; have hfz58_1 := blk_frozen BK73009.out 1; have hfz58_2 := blk_frozen BK73009.out 2; obtain ⟨Ao59, co59, eo59⟩ := Kd.R_slice HO73006.out; subst eo59) | ((with_reducible refine gate_callee (f := 64) rfl ?_); refine goesM (some 10) Tryd.func64 #[.pointer (some ⟨g, 0, none⟩), .int .i64 12] ?_; (with_reducible refine (spec_l01Cur_pick.calls g s0_0 t73007 t73008 12 t73010 t73011 t73012 w0 _ ?side1 ?side2 A4.out).mono ?_); (case side1 => exact pIIsS141 HI0); (case side2 => exact hbIsS141); rintro e w60 ⟨rfl, hi, hb, hk⟩; refine ⟨_, rfl, ?_⟩; replace BK73001 := Aside0.mk (KeepBut.blk hk (g' := gb73001) (o := .cells #[.int .i64 0, .int .i64 0, .slice none 0 0] 25 (0, 0)) (by refine pB ?_; refine blk_far ?_ NB73001_73009.out _; refine pB ?_; refine blk_far ?_ NB73001_73009.out _; refine pB ?_; refine blk_far ?_ NB73001_73009.out _; refine pB ?_; exact BK73001.out) NB73001_0.out (by simp)); replace HO73006 := Aside0.mk (Kd.R_mono (Kd.R_keep (IsS141.apart (show IsS141 w0 _ g s0_0 t73007 t73008 from pIIsS141 HI0) (by (with_reducible repeat (first | apply Kd.R_alloc | apply Kd.R_drewN | apply Kd.R_drew)); exact (Kd.R_mono (Kd.R_far (p := ⟨gb73009, 2, none⟩) (Kd.R_far (p := ⟨gb73009, 1, none⟩) (Kd.R_far (p := ⟨gb73009, 0, none⟩) (Kd.R_types HO73006.out BK73009.out (by decide)) (fun _ hk => hk.2) (.int .i64 t73002)) (fun _ hk => hk.2) (.int .i64 t73003)) (fun _ hk => hk.2) (.slice Ao59 t73004.length co59)) (fun _ h_ => h_.1))) (by decide)) hk (fun _ h => h.2)) (fun _ h => h.1)); replace BK73009 := Aside0.mk (KeepBut.blk hk (g' := gb73009) (o := .cells #[.int .i64 t73002, .int .i64 t73003, .slice Ao59 t73004.length co59] 25 (0, 0)) (by refine pB ?_; refine blk_put (cs := #[.int .i64 t73002, .int .i64 t73003, .slice none 0 0]) ?_ 2 _ rfl; refine pB ?_; refine blk_put (cs := #[.int .i64 t73002, .int .i64 0, .slice none 0 0]) ?_ 1 _ rfl; refine pB ?_; refine blk_put (cs := #[.int .i64 0, .int .i64 0, .slice none 0 0]) ?_ 0 _ rfl; refine pB ?_; exact BK73009.out) NB73009_0.out (by simp)); replace HK := Aside0.mk (KeepBut.trans (by repeat (first | (with_reducible first | exact HK.out | apply KeepBut.set_ | apply keep_drewN | apply keep_drew | apply keep_alloc | refine keep_far ?_ GW73001.out _ | refine keep_far ?_ GW73009.out _) | exact HK.out)) hk (.inl rfl)); replace HB := Aside0.mk (hb); replace HI0 := Aside0.mk (hi); (try clear hb); (try clear hb2); (try clear hk); (try clear hi)) | ((with_reducible refine gate_callee (f := 64) rfl ?_); refine goesM (some 32) Tryd.func64 #[.pointer (some ⟨g, 0, none⟩), .int .i64 3] ?_; (with_reducible refine (spec_l01Cur_pick.calls g s0_0 t73011 t73012 3 t73024 t73025 t73026 w0 _ ?side1 ?side2 A49.out).mono ?_); (case side1 => exact pIIsS141 HI0); (case side2 => exact hbIsS141); rintro e w61 ⟨rfl, hi, hb, hk⟩; refine ⟨_, rfl, ?_⟩; replace BK73001 := Aside0.mk (bkk hk BK73001 NB73001_0.out); replace HO73006 := Aside0.mk (Kd.R_mono (Kd.R_keep (IsS141.apart (show IsS141 w0 _ g s0_0 t73011 t73012 from pIIsS141 HI0) (hrnR HO73006) (by decide)) hk (fun _ h => h.2)) (fun _ h => h.1)); replace BK73009 := Aside0.mk (bkk hk BK73009 NB73009_0.out); replace HK := Aside0.mk (KeepBut.trans (by repeat (first | (with_reducible first | exact HK.out | apply KeepBut.set_ | apply keep_drewN | apply keep_drew | apply keep_alloc | refine keep_far ?_ GW73001.out _ | refine keep_far ?_ GW73009.out _) | exact HK.out)) hk (.inl rfl)); replace HB := Aside0.mk (hb); replace HI0 := Aside0.mk (hi); (try clear hb); (try clear hb2); (try clear hk); (try clear hi)) | ((with_reducible refine gate_dst (N := 34) rfl ?_); refine Kd.R_make (Kd.int .u8) _ 5 rfl (N := 34) rfl 22 _ _ rfl ji50 rfl rfl Tryd.underlying22 (.int .u8 0) 1 info5 rfl (by decide) (by omega) 0 (ok := fun _ => True) (okp := fun _ => True) rfl (fun _ hk => hk) trivial (odt) (Nat.le_trans (Nat.mul_le_mul_right _ (odt : ji50.toNat ≤ 281474976710656)) (by omega)) (Below.refl _ _) (Nat.le_refl _) ?_; intro v73028 w62 ho63 hb hg_ hnew_; clear hg_ hnew_; (first | rw [← Ny73027.out] at ho63 | (simp only [Int.reduceToNat] at ho63; rw [← Ny73027.out] at ho63)); have HO73029 := Aside0.mk (Kd.R_lower (Kd.R_new' ho63 (Kd.R_lt (hrnR HO73006))) (keep_size (w := w) (g := g) (row := none) (by repeat (first | (with_reducible first | exact HK.out | apply KeepBut.set_ | apply keep_drewN | apply keep_drew | apply keep_alloc | refine keep_far ?_ GW73001.out _ | refine keep_far ?_ GW73009.out _) | exact HK.out)))); replace HO73006 := Aside0.mk (Kd.R_elder' (hrnR HO73006) (Kd.R_base ho63) hb); replace BK73001 := Aside0.mk (bkb BK73001 hb); replace BK73009 := Aside0.mk (bkb BK73009 hb); replace HK := Aside0.mk (KeepBut.trans (by repeat (first | (with_reducible first | exact HK.out | apply KeepBut.set_ | apply keep_drewN | apply keep_drew | apply keep_alloc | refine keep_far ?_ GW73001.out _ | refine keep_far ?_ GW73009.out _) | exact HK.out)) (KeepBut.of_below hb g none) (.inl rfl)); replace HB := Aside0.mk (below_step hbIsS141 hb); replace HI0 := Aside0.mk (IsS141.below (pIIsS141 HI0) hb); clear hb ho63; obtain ⟨Ao64, co64, eo64⟩ := Kd.R_slice HO73029.out; subst eo64; have hcz65_0 : w62.cell? ⟨gb73009, 0, none⟩ = some (.int .i64 t73002) := (blk_cell BK73009.out 0).trans rfl; have hcz65_1 : w62.cell? ⟨gb73009, 1, none⟩ = some (.int .i64 t73003) := (blk_cell BK73009.out 1).trans rfl; have hcz65_2 : w62.cell? ⟨gb73009, 2, none⟩ = some (.slice Ao59 t73004.length co59) := (blk_cell BK73009.out 2).trans rfl; have hfz65_0 := blk_frozen BK73009.out 0; have hfz65_1 := blk_frozen BK73009.out 1; have hfz65_2 := blk_frozen BK73009.out 2; have hnb66 := NB73001_0.out; have hnc66 := NB0_73001.out; have hcz67_0 : w62.cell? ⟨gb73001, 0, none⟩ = some (.int .i64 0) := (blk_cell BK73001.out 0).trans rfl; have hcz67_1 : w62.cell? ⟨gb73001, 1, none⟩ = some (.int .i64 0) := (blk_cell BK73001.out 1).trans rfl; have hcz67_2 : w62.cell? ⟨gb73001, 2, none⟩ = some (.slice none 0 0) := (blk_cell BK73001.out 2).trans rfl; have hfz67_0 := blk_frozen BK73001.out 0; have hfz67_1 := blk_frozen BK73001.out 1; have hfz67_2 := blk_frozen BK73001.out 2))
       refine bodyPost_ret (results_cell_row rfl _ _ gb73001 25 #[.int .i64 t73002, .int .i64 t73003, .slice Ao64 y73027.length co64] (0, 0) _ rfl (by refine pB ?_; refine blk_put (cs := #[.int .i64 t73002, .int .i64 t73003, .slice none 0 0]) ?_ 2 _ rfl; refine pB ?_; refine blk_put (cs := #[.int .i64 t73002, .int .i64 0, .slice none 0 0]) ?_ 1 _ rfl; refine pB ?_; refine blk_put (cs := #[.int .i64 0, .int .i64 0, .slice none 0 0]) ?_ 0 _ rfl; refine pB ?_; refine blk_far ?_ NB73001_73009.out _; refine pB ?_; exact BK73001.out) Tryd.underlying25 rfl (by kernel_rfl)) rfl ?_
       exact ⟨_, by first | rfl | (simp [errW_none, errW_some] <;> rfl) | (simp only [← hji50]; first | rfl | (simp [errW_none, errW_some] <;> rfl)) | (simp [*, errW_none, errW_some] <;> rfl), by (with_reducible repeat (first | apply Kd.R_alloc | apply Kd.R_drewN | apply Kd.R_drew)); exact Kd.R_mono (Kd.R_far (p := ⟨gb73001, 2, none⟩) (Kd.R_far (p := ⟨gb73001, 1, none⟩) (Kd.R_far (p := ⟨gb73001, 0, none⟩) (Kd.R_far (p := ⟨gb73009, 2, none⟩) (Kd.R_types (Kd.R_types HO73029.out BK73009.out (by decide)) BK73001.out (by decide)) (fun _ hk => hk.1.2) (.slice Ao64 y73027.length co64)) (fun _ hk => hk.2) (.int .i64 t73002)) (fun _ hk => hk.2) (.int .i64 t73003)) (fun _ hk => hk.2) (.slice Ao64 y73027.length co64)) (fun _ hk => trivial), pIIsS141 HI0, hbIsS141, by repeat (first | (with_reducible first | exact HK.out | apply KeepBut.set_ | apply keep_drewN | apply keep_drew | apply keep_alloc | refine keep_far ?_ GW73001.out _ | refine keep_far ?_ GW73009.out _) | exact HK.out)⟩
      ·rw [if_neg c52] at H
       exact absurd H (by simp)
     ·rw [if_neg c51] at H
      exact absurd H (by simp)
    ·rw [if_neg c48] at H
     have c48b0 : (t73010 == 3) = false := beq_eq_false_iff_ne.mpr c48
     have c48b1 : (t73010 != 3) = true := bne_iff_ne.mpr c48
     simp only [Option.some.injEq, Prod.mk.injEq] at H
     obtain ⟨rfl, rfl, rfl, rfl, rfl⟩ := H
     go_enter Tryd.func72, Tryd.ntmps72
     go_wp2_with (first | ((with_reducible refine gate_dst (N := 4) rfl ?_); refine boxE 4 #[.int .i64 0, .int .i64 0, .slice none 0 0] 25 ?_; intro gb73001 hg w68 BK73001 hb; have GW73001 := Aside0.mk ((by rw [hg]; exact (keep_size (w := w) (g := g) (row := none) hkk) : w.heap.size ≤ gb73001)); have GE73001 := Aside0.mk ((Nat.le_trans HW0.out (by rw [hg]; exact (keep_size (w := w) (g := g) (row := none) hkk) : w.heap.size ≤ gb73001) : w0.heap.size ≤ gb73001)); have NB0_73001 := Aside0.mk ((by rw [hg]; exact Nat.ne_of_lt (IsS141.lt (show IsS141 w0 _ g s0_0 s0_1 s0_2 from pIIsS141 HI0)) : g ≠ gb73001)); have NB73001_0 := Aside0.mk ((by rw [hg]; exact Nat.ne_of_gt (IsS141.lt (show IsS141 w0 _ g s0_0 s0_1 s0_2 from pIIsS141 HI0)) : gb73001 ≠ g)); replace HK := Aside0.mk (KeepBut.trans hkk (KeepBut.of_below hb g none) (.inl rfl)); replace HB := Aside0.mk (below_step hbIsS141 hb); replace HI0 := Aside0.mk (IsS141.below (pIIsS141 HI0) hb); clear hb hg) | ((with_reducible refine gate_callee (f := 63) rfl ?_); refine goesM (some 8) Tryd.func63 #[.pointer (some ⟨g, 0, none⟩), .slice A1 l1.length c1] ?_; (with_reducible refine (spec_l01Cur_edit.calls k g s0_0 s0_1 s0_2 _ _ l1 t73002 t73003 t73004 t73007 t73008 w0 _ ?side1 ?side2 ?side3 ?side4 ?side5 A3.out).mono ?_); (case side1 => exact pIIsS141 HI0); (case side2 => exact hbIsS141); (case side3 => exact Kd.C_keep 0 HR1.out (by repeat (first | (with_reducible first | exact HK.out | apply KeepBut.set_ | apply keep_drewN | apply keep_drew | apply keep_alloc | refine keep_far ?_ GW73001.out _) | exact HK.out)) hf1); (case side4 => exact HC1.out); (case side5 => exact hf1); rintro e w69 ⟨v73005, rfl, ho0, hi, hb, hk⟩; refine ⟨_, rfl, ?_⟩; have HO73006 := Aside0.mk (Kd.R_lower ho0 (keep_size (w := w) (g := g) (row := none) (by repeat (first | (with_reducible first | exact HK.out | apply KeepBut.set_ | apply keep_drewN | apply keep_drew | apply keep_alloc | refine keep_far ?_ GW73001.out _) | exact HK.out)))); replace BK73001 := Aside0.mk (bkk hk BK73001 NB73001_0.out); replace HK := Aside0.mk (KeepBut.trans (by repeat (first | (with_reducible first | exact HK.out | apply KeepBut.set_ | apply keep_drewN | apply keep_drew | apply keep_alloc | refine keep_far ?_ GW73001.out _) | exact HK.out)) hk (.inl rfl)); replace HB := Aside0.mk (hb); replace HI0 := Aside0.mk (hi); (try clear hb); (try clear hb2); (try clear hk); (try clear hi); (try clear ho0)) | ((with_reducible refine gate_dst (N := 5) rfl ?_); refine boxE 5 #[.int .i64 0, .int .i64 0, .slice none 0 0] 25 ?_; intro gb73009 hg w70 BK73009 hb; have GW73009 := Aside0.mk ((by rw [hg]; exact (keep_size (w := w) (g := g) (row := none) (by repeat (first | (with_reducible first | exact HK.out | apply KeepBut.set_ | apply keep_drewN | apply keep_drew | apply keep_alloc | refine keep_far ?_ GW73001.out _) | exact HK.out))) : w.heap.size ≤ gb73009)); have GE73009 := Aside0.mk ((Nat.le_trans HW0.out (by rw [hg]; exact (keep_size (w := w) (g := g) (row := none) (by repeat (first | (with_reducible first | exact HK.out | apply KeepBut.set_ | apply keep_drewN | apply keep_drew | apply keep_alloc | refine keep_far ?_ GW73001.out _) | exact HK.out))) : w.heap.size ≤ gb73009) : w0.heap.size ≤ gb73009)); have NB73001_73009 := Aside0.mk (nbl BK73001 hg); have NB73009_73001 := Aside0.mk (nbg BK73001 hg); have NB0_73009 := Aside0.mk ((by rw [hg]; exact Nat.ne_of_lt (IsS141.lt (show IsS141 w0 _ g s0_0 t73007 t73008 from pIIsS141 HI0)) : g ≠ gb73009)); have NB73009_0 := Aside0.mk ((by rw [hg]; exact Nat.ne_of_gt (IsS141.lt (show IsS141 w0 _ g s0_0 t73007 t73008 from pIIsS141 HI0)) : gb73009 ≠ g)); replace HO73006 := Aside0.mk (Kd.R_below (hrnR HO73006) hb); replace BK73001 := Aside0.mk (bkb BK73001 hb); replace HK := Aside0.mk (KeepBut.trans (by repeat (first | (with_reducible first | exact HK.out | apply KeepBut.set_ | apply keep_drewN | apply keep_drew | apply keep_alloc | refine keep_far ?_ GW73001.out _) | exact HK.out)) (KeepBut.of_below hb g none) (.inl rfl)); replace HB := Aside0.mk (below_step hbIsS141 hb); replace HI0 := Aside0.mk (IsS141.below (pIIsS141 HI0) hb); clear hb hg; have hnb71 := NB73009_73001.out; have hnc71 := NB73001_73009.out; have hnb72 := NB73009_0.out; have hnc72 := NB0_73009.out; have hcz73_0 : w70.cell? ⟨gb73009, 0, none⟩ = some (.int .i64 0) := (blk_cell BK73009.out 0).trans rfl; have hcz73_1 : w70.cell? ⟨gb73009, 1, none⟩ = some (.int .i64 0) := (blk_cell BK73009.out 1).trans rfl; have hcz73_2 : w70.cell? ⟨gb73009, 2, none⟩ = some (.slice none 0 0) := (blk_cell BK73009.out 2).trans rfl; have hfz73_0 := blk_frozen BK73009.out 0; have hfz73_1 := blk_frozen BK73009.out 1; have hfz73_2 := blk_frozen BK73009.out 2; obtain ⟨Ao74, co74, eo74⟩ := Kd.R_slice HO73006.out; subst eo74) | ((with_reducible refine gate_callee (f := 64) rfl ?_); refine goesM (some 10) Tryd.func64 #[.pointer (some ⟨g, 0, none⟩), .int .i64 12] ?_; (with_reducible refine (spec_l01Cur_pick.calls g s0_0 t73007 t73008 12 t73010 t73011 t73012 w0 _ ?side1 ?side2 A4.out).mono ?_); (case side1 => exact pIIsS141 HI0); (case side2 => exact hbIsS141); rintro e w75 ⟨rfl, hi, hb, hk⟩; refine ⟨_, rfl, ?_⟩; replace BK73001 := Aside0.mk (KeepBut.blk hk (g' := gb73001) (o := .cells #[.int .i64 0, .int .i64 0, .slice none 0 0] 25 (0, 0)) (by refine pB ?_; refine blk_far ?_ NB73001_73009.out _; refine pB ?_; refine blk_far ?_ NB73001_73009.out _; refine pB ?_; refine blk_far ?_ NB73001_73009.out _; refine pB ?_; exact BK73001.out) NB73001_0.out (by simp)); replace HO73006 := Aside0.mk (Kd.R_mono (Kd.R_keep (IsS141.apart (show IsS141 w0 _ g s0_0 t73007 t73008 from pIIsS141 HI0) (by (with_reducible repeat (first | apply Kd.R_alloc | apply Kd.R_drewN | apply Kd.R_drew)); exact (Kd.R_mono (Kd.R_far (p := ⟨gb73009, 2, none⟩) (Kd.R_far (p := ⟨gb73009, 1, none⟩) (Kd.R_far (p := ⟨gb73009, 0, none⟩) (Kd.R_types HO73006.out BK73009.out (by decide)) (fun _ hk => hk.2) (.int .i64 t73002)) (fun _ hk => hk.2) (.int .i64 t73003)) (fun _ hk => hk.2) (.slice Ao74 t73004.length co74)) (fun _ h_ => h_.1))) (by decide)) hk (fun _ h => h.2)) (fun _ h => h.1)); replace BK73009 := Aside0.mk (KeepBut.blk hk (g' := gb73009) (o := .cells #[.int .i64 t73002, .int .i64 t73003, .slice Ao74 t73004.length co74] 25 (0, 0)) (by refine pB ?_; refine blk_put (cs := #[.int .i64 t73002, .int .i64 t73003, .slice none 0 0]) ?_ 2 _ rfl; refine pB ?_; refine blk_put (cs := #[.int .i64 t73002, .int .i64 0, .slice none 0 0]) ?_ 1 _ rfl; refine pB ?_; refine blk_put (cs := #[.int .i64 0, .int .i64 0, .slice none 0 0]) ?_ 0 _ rfl; refine pB ?_; exact BK73009.out) NB73009_0.out (by simp)); replace HK := Aside0.mk (KeepBut.trans (by repeat (first | (with_reducible first | exact HK.out | apply KeepBut.set_ | apply keep_drewN | apply keep_drew | apply keep_alloc | refine keep_far ?_ GW73001.out _ | refine keep_far ?_ GW73009.out _) | exact HK.out)) hk (.inl rfl)); replace HB := Aside0.mk (hb); replace HI0 := Aside0.mk (hi); (try clear hb); (try clear hb2); (try clear hk); (try clear hi); have hcz76_0 : w75.cell? ⟨gb73009, 0, none⟩ = some (.int .i64 t73002) := (blk_cell BK73009.out 0).trans rfl; have hcz76_1 : w75.cell? ⟨gb73009, 1, none⟩ = some (.int .i64 t73003) := (blk_cell BK73009.out 1).trans rfl; have hcz76_2 : w75.cell? ⟨gb73009, 2, none⟩ = some (.slice Ao74 t73004.length co74) := (blk_cell BK73009.out 2).trans rfl; have hfz76_0 := blk_frozen BK73009.out 0; have hfz76_1 := blk_frozen BK73009.out 1; have hfz76_2 := blk_frozen BK73009.out 2; have hnb77 := NB73001_0.out; have hnc77 := NB0_73001.out; have hcz78_0 : w75.cell? ⟨gb73001, 0, none⟩ = some (.int .i64 0) := (blk_cell BK73001.out 0).trans rfl; have hcz78_1 : w75.cell? ⟨gb73001, 1, none⟩ = some (.int .i64 0) := (blk_cell BK73001.out 1).trans rfl; have hcz78_2 : w75.cell? ⟨gb73001, 2, none⟩ = some (.slice none 0 0) := (blk_cell BK73001.out 2).trans rfl; have hfz78_0 := blk_frozen BK73001.out 0; have hfz78_1 := blk_frozen BK73001.out 1; have hfz78_2 := blk_frozen BK73001.out 2))
     refine bodyPost_ret (results_cell_row rfl _ _ gb73001 25 #[.int .i64 t73002, .int .i64 t73003, .slice Ao74 t73004.length co74] (0, 0) _ rfl (by refine pB ?_; refine blk_put (cs := #[.int .i64 t73002, .int .i64 t73003, .slice none 0 0]) ?_ 2 _ rfl; refine pB ?_; refine blk_put (cs := #[.int .i64 t73002, .int .i64 0, .slice none 0 0]) ?_ 1 _ rfl; refine pB ?_; refine blk_put (cs := #[.int .i64 0, .int .i64 0, .slice none 0 0]) ?_ 0 _ rfl; refine pB ?_; exact BK73001.out) Tryd.underlying25 rfl (by kernel_rfl)) rfl ?_
     exact ⟨_, erf, by (with_reducible repeat (first | apply Kd.R_alloc | apply Kd.R_drewN | apply Kd.R_drew)); exact Kd.R_mono (Kd.R_far (p := ⟨gb73001, 2, none⟩) (Kd.R_far (p := ⟨gb73001, 1, none⟩) (Kd.R_far (p := ⟨gb73001, 0, none⟩) (Kd.R_types HO73006.out BK73001.out (by decide)) (fun _ hk => hk.2) (.int .i64 t73002)) (fun _ hk => hk.2) (.int .i64 t73003)) (fun _ hk => hk.2) (.slice Ao74 t73004.length co74)) (fun _ hk => trivial), pIIsS141 HI0, hbIsS141, by repeat (first | (with_reducible first | exact HK.out | apply KeepBut.set_ | apply keep_drewN | apply keep_drew | apply keep_alloc | refine keep_far ?_ GW73001.out _ | refine keep_far ?_ GW73009.out _) | exact HK.out)⟩
def spec_DrawEditsDo.j0 : Nat → List Int → List (S25) → List Int → Int → Int → Option (List Int × (List (S25)))
 | 0, _, _, _, _, _ => none
 | k + 1, x5, x6, x28005000, x28005001, x28005002 => (spec_l01Cur_once.f x28005000 x28005001 x28005002 12).bind fun bt28038 => (if bt28038.1 = true then ((spec_l01Cur_badText.f k x28005000 bt28038.2.1 bt28038.2.2 40).bind fun bt28041 => (some (bt28041.1, x6))) else (some (x5, x6)))
def spec_DrawEditsDo.f (k : Nat) (l0 : List Int) : Option (List Int × (List (S25))) := (spec_l01Open.f l0).bind fun bt28001 => ((spec_l01Cur_text.f k bt28001.1 bt28001.2.1 bt28001.2.2 40).bind fun bt28005 => ((spec_l01Cur_edits.f k bt28001.1 bt28005.2.1 bt28005.2.2 bt28005.1 9).bind fun bt28010 => ((spec_l01Cur_once.f bt28001.1 bt28010.2.1 bt28010.2.2 3).bind fun bt28015 => (if bt28015.1 = true then ((spec_l01Cur_badEdit.f k bt28001.1 bt28015.2.1 bt28015.2.2 bt28005.1).bind fun bt28018 => ((spec_l01Cur_edit.f k bt28001.1 bt28018.2.2.2.1 bt28018.2.2.2.2 bt28005.1).bind fun bt28025 => ((some (([(⟨bt28018.1, bt28018.2.1, bt28018.2.2.1⟩ : S25), (⟨bt28025.1, bt28025.2.1, bt28025.2.2.1⟩ : S25)] : List (S25)) : List (S25))).bind fun y28032 => (if bt28010.1.length + y28032.length < 3518437208883 then (spec_DrawEditsDo.j0 k bt28005.1 (bt28010.1 ++ y28032) bt28001.1 bt28025.2.2.2.1 bt28025.2.2.2.2) else (none))))) else (spec_DrawEditsDo.j0 k bt28005.1 bt28010.1 bt28001.1 bt28015.2.1 bt28015.2.2)))))
set_option maxHeartbeats 8000000 in
set_option maxRecDepth 100000 in
theorem spec_DrawEditsDo.calls (k : Nat) (A0 : Option Addr) (c0 : Nat) (l0 : List Int) (r1 : List Int) (r2 : List (S25)) (w : World) (hr0 : Kd.C (Kd.int .u8) w A0 l0.length l0) (hc0 : l0.length ≤ c0) (h : spec_DrawEditsDo.f k l0 = some (r1, r2)) :
  Calls Tryd.prog 27 #[.slice A0 l0.length c0] w fun e w' => ∃ v0_ v1_ : Value, e = .returned (.tuple #[v0_, v1_]) ∧ Kd.R (Kd.int .u8) 5 w' w.heap.size (fun k_ => (w.heap.size ≤ k_)) v0_ r1 ∧ Kd.N k25 25 w' w.heap.size (fun k_ => (w.heap.size ≤ k_) ∧ some k_ ≠ (v0_ : Value).ownBlock) v1_ r2 ∧ Below w.heap.size w w' := by
 have HR0 := Aside0.mk hr0
 have HC0 := Aside0.mk hc0
 clear hr0 hc0
 have HB := Aside0.mk (Below.refl w.heap.size w)
 have H : ((spec_l01Open.f l0).bind fun bt28001 => ((spec_l01Cur_text.f k bt28001.1 bt28001.2.1 bt28001.2.2 40).bind fun bt28005 => ((spec_l01Cur_edits.f k bt28001.1 bt28005.2.1 bt28005.2.2 bt28005.1 9).bind fun bt28010 => ((spec_l01Cur_once.f bt28001.1 bt28010.2.1 bt28010.2.2 3).bind fun bt28015 => (if bt28015.1 = true then ((spec_l01Cur_badEdit.f k bt28001.1 bt28015.2.1 bt28015.2.2 bt28005.1).bind fun bt28018 => ((spec_l01Cur_edit.f k bt28001.1 bt28018.2.2.2.1 bt28018.2.2.2.2 bt28005.1).bind fun bt28025 => ((some (([(⟨bt28018.1, bt28018.2.1, bt28018.2.2.1⟩ : S25), (⟨bt28025.1, bt28025.2.1, bt28025.2.2.1⟩ : S25)] : List (S25)) : List (S25))).bind fun y28032 => (if bt28010.1.length + y28032.length < 3518437208883 then (spec_DrawEditsDo.j0 k bt28005.1 (bt28010.1 ++ y28032) bt28001.1 bt28025.2.2.2.1 bt28025.2.2.2.2) else (none))))) else (spec_DrawEditsDo.j0 k bt28005.1 bt28010.1 bt28001.1 bt28015.2.1 bt28015.2.2)))))) = some (r1, r2) := h
 clear h
 replace H := Option.bind_eq_some_iff.mp H
 obtain ⟨⟨t28001, t28002, t28003⟩, A20, H⟩ := H
 replace H : ((spec_l01Cur_text.f k t28001 t28002 t28003 40).bind fun bt28005 => ((spec_l01Cur_edits.f k t28001 bt28005.2.1 bt28005.2.2 bt28005.1 9).bind fun bt28010 => ((spec_l01Cur_once.f t28001 bt28010.2.1 bt28010.2.2 3).bind fun bt28015 => (if bt28015.1 = true then ((spec_l01Cur_badEdit.f k t28001 bt28015.2.1 bt28015.2.2 bt28005.1).bind fun bt28018 => ((spec_l01Cur_edit.f k t28001 bt28018.2.2.2.1 bt28018.2.2.2.2 bt28005.1).bind fun bt28025 => ((some (([(⟨bt28018.1, bt28018.2.1, bt28018.2.2.1⟩ : S25), (⟨bt28025.1, bt28025.2.1, bt28025.2.2.1⟩ : S25)] : List (S25)) : List (S25))).bind fun y28032 => (if bt28010.1.length + y28032.length < 3518437208883 then (spec_DrawEditsDo.j0 k bt28005.1 (bt28010.1 ++ y28032) t28001 bt28025.2.2.2.1 bt28025.2.2.2.2) else (none))))) else (spec_DrawEditsDo.j0 k bt28005.1 bt28010.1 t28001 bt28015.2.1 bt28015.2.2))))) = some (r1, r2) := H
 have A2 := Aside0.mk A20
 clear A20
 replace H := Option.bind_eq_some_iff.mp H
 obtain ⟨⟨t28005, t28008, t28009⟩, A30, H⟩ := H
 replace H : ((spec_l01Cur_edits.f k t28001 t28008 t28009 t28005 9).bind fun bt28010 => ((spec_l01Cur_once.f t28001 bt28010.2.1 bt28010.2.2 3).bind fun bt28015 => (if bt28015.1 = true then ((spec_l01Cur_badEdit.f k t28001 bt28015.2.1 bt28015.2.2 t28005).bind fun bt28018 => ((spec_l01Cur_edit.f k t28001 bt28018.2.2.2.1 bt28018.2.2.2.2 t28005).bind fun bt28025 => ((some (([(⟨bt28018.1, bt28018.2.1, bt28018.2.2.1⟩ : S25), (⟨bt28025.1, bt28025.2.1, bt28025.2.2.1⟩ : S25)] : List (S25)) : List (S25))).bind fun y28032 => (if bt28010.1.length + y28032.length < 3518437208883 then (spec_DrawEditsDo.j0 k t28005 (bt28010.1 ++ y28032) t28001 bt28025.2.2.2.1 bt28025.2.2.2.2) else (none))))) else (spec_DrawEditsDo.j0 k t28005 bt28010.1 t28001 bt28015.2.1 bt28015.2.2)))) = some (r1, r2) := H
 have A3 := Aside0.mk A30
 clear A30
 replace H := Option.bind_eq_some_iff.mp H
 obtain ⟨⟨t28010, t28013, t28014⟩, A40, H⟩ := H
 replace H : ((spec_l01Cur_once.f t28001 t28013 t28014 3).bind fun bt28015 => (if bt28015.1 = true then ((spec_l01Cur_badEdit.f k t28001 bt28015.2.1 bt28015.2.2 t28005).bind fun bt28018 => ((spec_l01Cur_edit.f k t28001 bt28018.2.2.2.1 bt28018.2.2.2.2 t28005).bind fun bt28025 => ((some (([(⟨bt28018.1, bt28018.2.1, bt28018.2.2.1⟩ : S25), (⟨bt28025.1, bt28025.2.1, bt28025.2.2.1⟩ : S25)] : List (S25)) : List (S25))).bind fun y28032 => (if t28010.length + y28032.length < 3518437208883 then (spec_DrawEditsDo.j0 k t28005 (t28010 ++ y28032) t28001 bt28025.2.2.2.1 bt28025.2.2.2.2) else (none))))) else (spec_DrawEditsDo.j0 k t28005 t28010 t28001 bt28015.2.1 bt28015.2.2))) = some (r1, r2) := H
 have A4 := Aside0.mk A40
 clear A40
 replace H := Option.bind_eq_some_iff.mp H
 obtain ⟨⟨t28015, t28016, t28017⟩, A50, H⟩ := H
 replace H : (if t28015 = true then ((spec_l01Cur_badEdit.f k t28001 t28016 t28017 t28005).bind fun bt28018 => ((spec_l01Cur_edit.f k t28001 bt28018.2.2.2.1 bt28018.2.2.2.2 t28005).bind fun bt28025 => ((some (([(⟨bt28018.1, bt28018.2.1, bt28018.2.2.1⟩ : S25), (⟨bt28025.1, bt28025.2.1, bt28025.2.2.1⟩ : S25)] : List (S25)) : List (S25))).bind fun y28032 => (if t28010.length + y28032.length < 3518437208883 then (spec_DrawEditsDo.j0 k t28005 (t28010 ++ y28032) t28001 bt28025.2.2.2.1 bt28025.2.2.2.2) else (none))))) else (spec_DrawEditsDo.j0 k t28005 t28010 t28001 t28016 t28017)) = some (r1, r2) := H
 have A5 := Aside0.mk A50
 clear A50
 have HC6 := Aside0.mk H
 clear H
 go_enter Tryd.func27, Tryd.ntmps27
 go_upto_if 15 with (first | ((with_reducible refine gate_callee (f := 61) rfl ?_); refine goesM (some 8) Tryd.func61 #[.slice A0 l0.length c0] ?_; (with_reducible refine (spec_l01Open.calls _ _ l0 t28001 t28002 t28003 w _ ?side1 ?side2 ?side3 A2.out).mono ?_); (case side1 => exact hbw); (case side2 => exact HR0.out); (case side3 => exact HC0.out); rintro e w7 ⟨g28004, rfl, hi, hb, hb2⟩; refine ⟨_, rfl, ?_⟩; have HI28004 := Aside0.mk (hi); replace HB := Aside0.mk (hb); (try clear hb); (try clear hb2); (try clear hk); (try clear hi)) | ((with_reducible refine gate_callee (f := 62) rfl ?_); refine goesM (some 10) Tryd.func62 #[.pointer (some ⟨g28004, 0, none⟩), .int .i64 40] ?_; (with_reducible refine (spec_l01Cur_text.calls k g28004 t28001 t28002 t28003 40 t28005 t28008 t28009 w _ ?side1 ?side2 A3.out).mono ?_); (case side1 => exact pIIsS141 HI28004); (case side2 => exact hbIsS141); rintro e w8 ⟨v28006, rfl, ho0, hi, hb, hk⟩; refine ⟨_, rfl, ?_⟩; have HO28007 := Aside0.mk (Kd.R_lower (Kd.R_newM (M := fun k_ => (w.heap.size ≤ k_)) ho0 (below_size hbIsS141) (fun k_ h_ => h_)) (below_size hbIsS141)); replace HB := Aside0.mk (hb); replace HI28004 := Aside0.mk (hi); (try clear hb); (try clear hb2); (try clear hk); (try clear hi); (try clear ho0); obtain ⟨Ao9, co9, eo9⟩ := Kd.R_slice HO28007.out; subst eo9) | ((with_reducible refine gate_callee (f := 82) rfl ?_); refine goesM (some 13) Tryd.func82 #[.pointer (some ⟨g28004, 0, none⟩), .slice Ao9 t28005.length co9, .int .i64 9] ?_; (with_reducible refine (spec_l01Cur_edits.calls k g28004 t28001 t28008 t28009 _ _ t28005 9 t28010 t28013 t28014 w _ ?side1 ?side2 ?side3 ?side4 ?side5 A4.out).mono ?_); (case side1 => exact pIIsS141 HI28004); (case side2 => exact hbIsS141); (case side3 => exact cpl (Kd.R_reads' HO28007.out).2.2); (case side4 => exact (Kd.R_reads' HO28007.out).2.1); (case side5 => exact far_slice (IsS141.own_ne HI28004.out HO28007.out (by decide))); rintro e w10 ⟨v28011, rfl, ho0, hi, hb, hk⟩; refine ⟨_, rfl, ?_⟩; have HO28012 := Aside0.mk (Kd.N_lower (Kd.N_mono (ok' := fun k_ => (w.heap.size ≤ k_) ∧ some k_ ≠ (.slice Ao9 t28005.length co9 : Value).ownBlock ∧ k_ ≠ g28004) (Kd.S_N (Kd.S_bound ho0)) (fun k_ hk_ => ⟨(Nat.le_trans (below_size hbIsS141) hk_.2.1), (Kd.fresh' (Kd.R_lt (hrnR HO28007)) k_ hk_.2.1), (IsS141.fresh (pIIsS141 HI28004) k_ hk_.2.1)⟩)) (below_size hbIsS141)); replace HO28007 := Aside0.mk (Kd.R_mono (Kd.R_keep (IsS141.apart (show IsS141 w _ g28004 t28001 t28008 t28009 from pIIsS141 HI28004) (hrnR HO28007) (by decide)) hk (fun _ h => h.2)) (fun _ h => h.1)); replace HB := Aside0.mk (hb); replace HI28004 := Aside0.mk (hi); (try clear hb); (try clear hb2); (try clear hk); (try clear hi); (try clear ho0)) | ((with_reducible refine gate_callee (f := 70) rfl ?_); refine goesM (some 15) Tryd.func70 #[.pointer (some ⟨g28004, 0, none⟩), .int .i64 3] ?_; (with_reducible refine (spec_l01Cur_once.calls g28004 t28001 t28013 t28014 3 t28015 t28016 t28017 w _ ?side1 ?side2 A5.out).mono ?_); (case side1 => exact pIIsS141 HI28004); (case side2 => exact hbIsS141); rintro e w11 ⟨rfl, hi, hb, hk⟩; refine ⟨_, rfl, ?_⟩; replace HO28007 := Aside0.mk (Kd.R_mono (Kd.R_keep (IsS141.apart (show IsS141 w _ g28004 t28001 t28013 t28014 from pIIsS141 HI28004) (hrnR HO28007) (by decide)) hk (fun _ h => h.2)) (fun _ h => h.1)); replace HO28012 := Aside0.mk (Kd.N_mono (Kd.N_keep (Kd.N_mono (ok := fun k_ => (((w.heap.size ≤ k_)) ∧ (some k_ ≠ (.slice Ao9 t28005.length co9 : Value).ownBlock ∧ k_ ≠ g28004))) (hrnN HO28012) (fun k_ hk_ => (⟨hk_, hk_.2.2⟩ : _ ∧ k_ ≠ g28004))) hk (fun _ h => h.2)) (fun _ h => h.1)); replace HB := Aside0.mk (hb); replace HI28004 := Aside0.mk (hi); (try clear hb); (try clear hb2); (try clear hk); (try clear hi)))
 (try simp only [Act.put, List.setIfInBounds_toArray, List.set_cons_zero, List.set_cons_succ])
 go_cut [6] (fun v6 wc => ∃ (kq : Nat) (x6_5 : List (S25)) (x28005001_5 : Int) (x28005002_5 : Int), Aside0 (spec_DrawEditsDo.j0 kq t28005 x6_5 t28001 x28005001_5 x28005002_5 = some (r1, r2)) ∧ Aside0 (kq ≤ k) ∧ Aside0 (Kd.R (Kd.int .u8) 5 wc w.heap.size (fun k_ => (w.heap.size ≤ k_)) (.slice Ao9 t28005.length co9) t28005) ∧ Aside0 (Kd.N k25 25 wc w.heap.size (fun k_ => (w.heap.size ≤ k_) ∧ some k_ ≠ ((.slice Ao9 t28005.length co9) : Value).ownBlock ∧ k_ ≠ g28004) v6 x6_5) ∧ Aside0 (IsS141 w wc g28004 t28001 x28005001_5 x28005002_5) ∧ Aside0 (Below w.heap.size w wc))
 case first =>
  have H := HC6.out
  clear HC6
  by_cases c12 : t28015 = true
  ·subst c12
   have H1 : ((spec_l01Cur_badEdit.f k t28001 t28016 t28017 t28005).bind fun bt28018 => ((spec_l01Cur_edit.f k t28001 bt28018.2.2.2.1 bt28018.2.2.2.2 t28005).bind fun bt28025 => ((some (([(⟨bt28018.1, bt28018.2.1, bt28018.2.2.1⟩ : S25), (⟨bt28025.1, bt28025.2.1, bt28025.2.2.1⟩ : S25)] : List (S25)) : List (S25))).bind fun y28032 => (if t28010.length + y28032.length < 3518437208883 then (spec_DrawEditsDo.j0 k t28005 (t28010 ++ y28032) t28001 bt28025.2.2.2.1 bt28025.2.2.2.2) else (none))))) = some (r1, r2) := by rw [if_pos rfl] at H; exact H
   clear H
   have H := H1
   clear H1
   replace H := Option.bind_eq_some_iff.mp H
   obtain ⟨⟨t28018, t28019, t28020, t28023, t28024⟩, A130, H⟩ := H
   replace H : ((spec_l01Cur_edit.f k t28001 t28023 t28024 t28005).bind fun bt28025 => ((some (([(⟨t28018, t28019, t28020⟩ : S25), (⟨bt28025.1, bt28025.2.1, bt28025.2.2.1⟩ : S25)] : List (S25)) : List (S25))).bind fun y28032 => (if t28010.length + y28032.length < 3518437208883 then (spec_DrawEditsDo.j0 k t28005 (t28010 ++ y28032) t28001 bt28025.2.2.2.1 bt28025.2.2.2.2) else (none)))) = some (r1, r2) := H
   have A13 := Aside0.mk A130
   clear A130
   replace H := Option.bind_eq_some_iff.mp H
   obtain ⟨⟨t28025, t28026, t28027, t28030, t28031⟩, A140, H⟩ := H
   replace H : ((some (([(⟨t28018, t28019, t28020⟩ : S25), (⟨t28025, t28026, t28027⟩ : S25)] : List (S25)) : List (S25))).bind fun y28032 => (if t28010.length + y28032.length < 3518437208883 then (spec_DrawEditsDo.j0 k t28005 (t28010 ++ y28032) t28001 t28030 t28031) else (none))) = some (r1, r2) := H
   have A14 := Aside0.mk A140
   clear A140
   obtain ⟨y28032, hy28032⟩ : ∃ y_ : List (S25), y_ = (([(⟨t28018, t28019, t28020⟩ : S25), (⟨t28025, t28026, t28027⟩ : S25)] : List (S25))) := ⟨_, rfl⟩
   replace H : (if t28010.length + y28032.length < 3518437208883 then (spec_DrawEditsDo.j0 k t28005 (t28010 ++ y28032) t28001 t28030 t28031) else (none)) = some (r1, r2) := repH hy28032 H
   have Ny28032 := Aside0.mk hy28032
   clear hy28032
   by_cases c15 : t28010.length + y28032.length < 3518437208883
   ·rw [if_pos c15] at H
    have LMc15 := Aside0.mk c15
    clear c15
    obtain ⟨y28035, hy28035⟩ : ∃ y_ : List (S25), y_ = (t28010 ++ y28032) := ⟨_, rfl⟩
    replace H : (spec_DrawEditsDo.j0 k t28005 y28035 t28001 t28030 t28031) = some (r1, r2) := repH hy28035 H
    have Ny28035 := Aside0.mk hy28035
    clear hy28035
    have H' := Aside0.mk H
    clear H
    go_wp2_with (first | ((with_reducible refine gate_callee (f := 72) rfl ?_); refine goesM (some 19) Tryd.func72 #[.pointer (some ⟨g28004, 0, none⟩), .slice Ao9 t28005.length co9] ?_; (with_reducible refine (spec_l01Cur_badEdit.calls k g28004 t28001 t28016 t28017 _ _ t28005 t28018 t28019 t28020 t28023 t28024 w _ ?side1 ?side2 ?side3 ?side4 ?side5 A13.out).mono ?_); (case side1 => exact pIIsS141 HI28004); (case side2 => exact hbIsS141); (case side3 => exact cpl (Kd.R_reads' HO28007.out).2.2); (case side4 => exact (Kd.R_reads' HO28007.out).2.1); (case side5 => exact far_slice (IsS141.own_ne HI28004.out HO28007.out (by decide))); rintro e w16 ⟨v28021, rfl, ho0, hi, hb, hk⟩; refine ⟨_, rfl, ?_⟩; have HO28022 := Aside0.mk (Kd.R_lower (Kd.R_new' (Kd.R_newM (M := fun k_ => (w.heap.size ≤ k_)) ho0 (below_size hbIsS141) (fun k_ h_ => h_)) (Kd.R_lt (hrnR HO28007))) (below_size hbIsS141)); replace HO28007 := Aside0.mk (Kd.R_mono (Kd.R_told (Kd.R_oldK (IsS141.apart (show IsS141 w _ g28004 t28001 t28016 t28017 from pIIsS141 HI28004) (hrnR HO28007) (by decide)) hk) (Kd.R_base ho0)) (fun _ h_ => h_.1)); replace HO28012 := Aside0.mk (Kd.N_mono (Kd.N_told (Kd.N_oldK (Kd.N_mono (ok := fun k_ => (((w.heap.size ≤ k_)) ∧ (some k_ ≠ (.slice Ao9 t28005.length co9 : Value).ownBlock ∧ k_ ≠ g28004))) (hrnN HO28012) (fun k_ hk_ => (⟨hk_, hk_.2.2⟩ : _ ∧ k_ ≠ g28004))) hk) (Kd.R_base ho0)) (fun _ h_ => h_.1)); replace HB := Aside0.mk (hb); replace HI28004 := Aside0.mk (hi); (try clear hb); (try clear hb2); (try clear hk); (try clear hi); (try clear ho0)) | ((with_reducible refine gate_callee (f := 63) rfl ?_); refine goesM (some 22) Tryd.func63 #[.pointer (some ⟨g28004, 0, none⟩), .slice Ao9 t28005.length co9] ?_; (with_reducible refine (spec_l01Cur_edit.calls k g28004 t28001 t28023 t28024 _ _ t28005 t28025 t28026 t28027 t28030 t28031 w _ ?side1 ?side2 ?side3 ?side4 ?side5 A14.out).mono ?_); (case side1 => exact pIIsS141 HI28004); (case side2 => exact hbIsS141); (case side3 => exact cpl (Kd.R_reads' HO28007.out).2.2); (case side4 => exact (Kd.R_reads' HO28007.out).2.1); (case side5 => exact far_slice (IsS141.own_ne HI28004.out HO28007.out (by decide))); rintro e w17 ⟨v28028, rfl, ho0, hi, hb, hk⟩; refine ⟨_, rfl, ?_⟩; have HO28029 := Aside0.mk (Kd.R_lower (Kd.R_new' (Kd.R_new' (Kd.R_newM (M := fun k_ => (w.heap.size ≤ k_)) ho0 (below_size hbIsS141) (fun k_ h_ => h_)) (Kd.R_lt (hrnR HO28007))) (Kd.R_lt (hrnR HO28022))) (below_size hbIsS141)); replace HO28007 := Aside0.mk (Kd.R_mono (Kd.R_told (Kd.R_oldK (IsS141.apart (show IsS141 w _ g28004 t28001 t28023 t28024 from pIIsS141 HI28004) (hrnR HO28007) (by decide)) hk) (Kd.R_base ho0)) (fun _ h_ => h_.1)); replace HO28012 := Aside0.mk (Kd.N_mono (Kd.N_told (Kd.N_oldK (Kd.N_mono (ok := fun k_ => ((((w.heap.size ≤ k_)) ∧ (some k_ ≠ (.slice Ao9 t28005.length co9 : Value).ownBlock ∧ k_ ≠ g28004)) ∧ some k_ ≠ (v28021 : Value).ownBlock)) (hrnN HO28012) (fun k_ hk_ => (⟨hk_, hk_.1.2.2⟩ : _ ∧ k_ ≠ g28004))) hk) (Kd.R_base ho0)) (fun _ h_ => h_.1)); replace HO28022 := Aside0.mk (Kd.R_mono (Kd.R_told (Kd.R_oldK (IsS141.apart (show IsS141 w _ g28004 t28001 t28023 t28024 from pIIsS141 HI28004) (hrnR HO28022) (by decide)) hk) (Kd.R_base ho0)) (fun _ h_ => h_.1)); replace HB := Aside0.mk (hb); replace HI28004 := Aside0.mk (hi); (try clear hb); (try clear hb2); (try clear hk); (try clear hi); (try clear ho0); obtain ⟨Ao18, co18, eo18⟩ := Kd.R_slice HO28022.out; subst eo18; obtain ⟨Ao19, co19, eo19⟩ := Kd.R_slice HO28029.out; subst eo19) | ((with_reducible refine gate_dst (N := 23) rfl ?_); refine Kd.N_lit k25 _ 25 ?hg (N' := 23) ?hd (xs := ([(⟨t28018, t28019, t28020⟩ : S25), (⟨t28025, t28026, t28027⟩ : S25)] : List (S25))) (inner := [.int .i64 t28018, .int .i64 t28019, .slice Ao18 t28020.length co18, .int .i64 t28025, .int .i64 t28026, .slice Ao19 t28027.length co19]) (ok := (fun k_ => (w.heap.size ≤ k_) ∧ some k_ ≠ (.slice Ao9 t28005.length co9 : Value).ownBlock ∧ some k_ ≠ (v28011 : Value).ownBlock ∧ k_ ≠ g28004)) (okp := (fun k_ => (w.heap.size ≤ k_) ∧ some k_ ≠ (.slice Ao9 t28005.length co9 : Value).ownBlock ∧ some k_ ≠ (v28011 : Value).ownBlock ∧ k_ ≠ g28004)) ?hr ?hp (fun _ hk => hk) ((show ∀ k_, w17.heap.size ≤ k_ → (fun k_ => (w.heap.size ≤ k_) ∧ some k_ ≠ (.slice Ao9 t28005.length co9 : Value).ownBlock ∧ some k_ ≠ (v28011 : Value).ownBlock ∧ k_ ≠ g28004) k_ from fun k_ hk => ⟨(Nat.le_trans (below_size hbIsS141) hk), Kd.fresh' (Kd.R_lt (hrnR HO28007)) k_ hk, Kd.fresh' (Kd.N_lt (hrnN HO28012)) k_ hk, IsS141.fresh (pIIsS141 HI28004) k_ hk⟩) _ (Nat.le_refl _)) (Below.refl _ _) (Nat.le_refl _) (by simp) ?_; (case hd => rfl); (case hg => rfl); (case hr => first | (go_simp; done) | (go_simp; rfl)); (case hp => exact (Reps.c3 (show Kd.FK k25 _ _ (⟨t28018, t28019, t28020⟩ : S25) [.int .i64 t28018, .int .i64 t28019, .slice Ao18 t28020.length co18] from (k25_mkF _ _ (⟨t28018, t28019, t28020⟩ : S25) (Kd.R_reads' (Kd.R_mono (ok' := (fun k_ => (w.heap.size ≤ k_) ∧ some k_ ≠ (.slice Ao9 t28005.length co9 : Value).ownBlock ∧ some k_ ≠ (v28011 : Value).ownBlock ∧ k_ ≠ g28004)) (IsS141.apart HI28004.out (Kd.R_apart' (HO28022.out) (Kd.N_typed HO28012.out) (by decide)) (by decide)) (fun k_ hk => ⟨hk.1.1.1.1.1, ⟨hk.1.1.1.2, ⟨hk.1.2, hk.2⟩⟩⟩))).2.1 (Kd.R_F (Kd.R_mono (ok' := (fun k_ => (w.heap.size ≤ k_) ∧ some k_ ≠ (.slice Ao9 t28005.length co9 : Value).ownBlock ∧ some k_ ≠ (v28011 : Value).ownBlock ∧ k_ ≠ g28004)) (IsS141.apart HI28004.out (Kd.R_apart' (HO28022.out) (Kd.N_typed HO28012.out) (by decide)) (by decide)) (fun k_ hk => ⟨hk.1.1.1.1.1, ⟨hk.1.1.1.2, ⟨hk.1.2, hk.2⟩⟩⟩))))) (Reps.c3 (show Kd.FK k25 _ _ (⟨t28025, t28026, t28027⟩ : S25) [.int .i64 t28025, .int .i64 t28026, .slice Ao19 t28027.length co19] from (k25_mkF _ _ (⟨t28025, t28026, t28027⟩ : S25) (Kd.R_reads' (Kd.R_mono (ok' := (fun k_ => (w.heap.size ≤ k_) ∧ some k_ ≠ (.slice Ao9 t28005.length co9 : Value).ownBlock ∧ some k_ ≠ (v28011 : Value).ownBlock ∧ k_ ≠ g28004)) (IsS141.apart HI28004.out (Kd.R_apart' (HO28029.out) (Kd.N_typed HO28012.out) (by decide)) (by decide)) (fun k_ hk => ⟨hk.1.1.1.1.1, ⟨hk.1.1.1.2, ⟨hk.1.2, hk.2⟩⟩⟩))).2.1 (Kd.R_F (Kd.R_mono (ok' := (fun k_ => (w.heap.size ≤ k_) ∧ some k_ ≠ (.slice Ao9 t28005.length co9 : Value).ownBlock ∧ some k_ ≠ (v28011 : Value).ownBlock ∧ k_ ≠ g28004)) (IsS141.apart HI28004.out (Kd.R_apart' (HO28029.out) (Kd.N_typed HO28012.out) (by decide)) (by decide)) (fun k_ hk => ⟨hk.1.1.1.1.1, ⟨hk.1.1.1.2, ⟨hk.1.2, hk.2⟩⟩⟩))))) (Reps.none _ _)))); intro v28033 w20 ho21 hb hg_ hnew_; clear hg_ hnew_; (first | rw [← Ny28032.out] at ho21 | (simp only [Int.reduceToNat] at ho21; rw [← Ny28032.out] at ho21)); have HO28034 := Aside0.mk (Kd.N_lower ho21 (below_size hbIsS141)); replace HO28007 := Aside0.mk (Kd.R_below (hrnR HO28007) hb); replace HO28012 := Aside0.mk (Kd.N_elder' (hrnN HO28012) (Kd.N_base ho21) hb); replace HB := Aside0.mk (below_step hbIsS141 hb); replace HI28004 := Aside0.mk (IsS141.below (pIIsS141 HI28004) hb); clear HO28022 HO28029; clear hb ho21; obtain ⟨Ao23, co23, eo23⟩ := Kd.N_slice HO28034.out; subst eo23) | ((with_reducible refine gate_builtin (b := .append) (xs := #[.tmp 16, .tmp 23]) rfl ?_); at_builtin; refine Kd.N_append_rows k25 (w0 := w) w.heap.size rfl (.tmp 16) (.tmp 23) 42 25 (.agg #[(.int .i64 0), (.int .i64 0), (.slice none 0 0)]) 40 rfl Tryd.underlying42 info25 rfl (by decide) (by omega) v28011 t28010 y28032 _ _ _ (fun k_ => (w.heap.size ≤ k_) ∧ some k_ ≠ (.slice Ao9 t28005.length co9 : Value).ownBlock ∧ k_ ≠ g28004) (fun k_ => ((fun k_ => (w.heap.size ≤ k_) ∧ some k_ ≠ (.slice Ao9 t28005.length co9 : Value).ownBlock ∧ k_ ≠ g28004)) k_ ∧ some k_ ≠ (v28011 : Value).ownBlock) rfl rfl ?aO ?aR (fun _ hk => hk) ?aF ?aB ?aS ?aL ?_; (case aR => exact (by skip; exact Kd.N_F (Kd.N_mono (ok' := (fun k_ => ((fun k_ => (w.heap.size ≤ k_) ∧ some k_ ≠ (.slice Ao9 t28005.length co9 : Value).ownBlock ∧ k_ ≠ g28004)) k_ ∧ some k_ ≠ (v28011 : Value).ownBlock)) (HO28034.out) (fun k_ hk => ⟨⟨hk.1, ⟨hk.2.1, hk.2.2.2⟩⟩, hk.2.2.1⟩)))); (case aB => exact hbIsS141); (case aF => exact (fun k_ hk => ⟨(Nat.le_trans (below_size hbIsS141) hk), Kd.fresh' (Kd.R_lt (hrnR HO28007)) k_ hk, IsS141.fresh (pIIsS141 HI28004) k_ hk⟩)); (case aO => exact (by (with_reducible repeat (first | apply Kd.N_alloc | apply Kd.N_drewN | apply Kd.N_drew)); exact Kd.N_mono HO28012.out (fun _ hk => ⟨hk.1.1.1.1, ⟨hk.1.1.1.2.1, hk.1.1.1.2.2⟩⟩))); (case aS => exact (below_size hbIsS141)); (case aL => have := LMc15.out; omega); intro v28036 w22 ho hb hg hat; rw [← Ny28035.out] at ho; have HO28037 := Aside0.mk (ho); replace HI28004 := Aside0.mk (IsS141.grown (pIIsS141 HI28004) hg (IsS141.own_neN HI28004.out HO28012.out (by decide))); replace HO28007 := Aside0.mk (Kd.R_over' (hrnR HO28007) (Kd.N_typed (hrnN HO28012)) (by decide) hg); replace HO28034 := Aside0.mk (Kd.N_afterv (ok := (fun k_ => (w.heap.size ≤ k_) ∧ some k_ ≠ (.slice Ao9 t28005.length co9 : Value).ownBlock ∧ k_ ≠ g28004)) (by (with_reducible repeat (first | apply Kd.N_alloc | apply Kd.N_drewN | apply Kd.N_drew)); exact Kd.N_mono HO28034.out (fun _ hk => ⟨⟨hk.1, ⟨hk.2.1, hk.2.2.2⟩⟩, hk.2.2.1⟩)) hg hat); replace HB := Aside0.mk (hb); clear HO28012; clear ho hb hg hat))
    go_meet
    case rel => exact ⟨_, (y28035), (t28030), (t28031), H', ⟨by first | omega | exact Nat.le_refl _⟩, ⟨by (with_reducible repeat (first | apply Kd.R_alloc | apply Kd.R_drewN | apply Kd.R_drew)); exact Kd.R_mono HO28007.out (fun _ hk => hk.1.1.1)⟩, ⟨(hrnN HO28037)⟩, ⟨pIIsS141 HI28004⟩, ⟨hbIsS141⟩⟩
   ·rw [if_neg c15] at H
    exact absurd H (by simp)
  ·replace c12 := Bool.eq_false_iff.mpr c12
   subst c12
   have H1 : (spec_DrawEditsDo.j0 k t28005 t28010 t28001 t28016 t28017) = some (r1, r2) := by rw [if_neg (show ¬ (false = true) by decide)] at H; exact H
   clear H
   have H := H1
   clear H1
   have H' := Aside0.mk H
   clear H
   go_wp2
   go_meet
   case rel => exact ⟨_, (t28010), (t28016), (t28017), H', ⟨by first | omega | exact Nat.le_refl _⟩, ⟨by (with_reducible repeat (first | apply Kd.R_alloc | apply Kd.R_drewN | apply Kd.R_drew)); exact Kd.R_mono HO28007.out (fun _ hk => hk.1)⟩, ⟨(hrnN HO28012)⟩, ⟨pIIsS141 HI28004⟩, ⟨hbIsS141⟩⟩
 case rest =>
  clear HC6
  try clear c1
  try clear c2
  try clear p2
  try clear c3
  try clear c6
  try clear c7
  try clear c8
  try clear c12
  try clear c15
  obtain ⟨kq, x6_5, x28005001_5, x28005002_5, HA, HJ5, HO_5, HO_6, HI28004, HB⟩ := hcut
  cases kq with
  | zero => exact absurd HA.out (by simp [spec_DrawEditsDo.j0])
  | succ kj5 =>
   have H := HA.out
   clear HA
   simp only [spec_DrawEditsDo.j0] at H
   replace H := Option.bind_eq_some_iff.mp H
   obtain ⟨⟨t28038, t28039, t28040⟩, A240, H⟩ := H
   replace H : (if t28038 = true then ((spec_l01Cur_badText.f kj5 t28001 t28039 t28040 40).bind fun bt28041 => (some (bt28041.1, x6_5))) else (some (t28005, x6_5))) = some (r1, r2) := H
   have A24 := Aside0.mk A240
   clear A240
   by_cases c25 : t28038 = true
   ·subst c25
    have H1 : ((spec_l01Cur_badText.f kj5 t28001 t28039 t28040 40).bind fun bt28041 => (some (bt28041.1, x6_5))) = some (r1, r2) := by rw [if_pos rfl] at H; exact H
    clear H
    have H := H1
    clear H1
    replace H := Option.bind_eq_some_iff.mp H
    obtain ⟨⟨t28041, t28044, t28045⟩, A260, H⟩ := H
    replace H : (some (t28041, x6_5)) = some (r1, r2) := H
    have A26 := Aside0.mk A260
    clear A260
    simp only [Option.some.injEq, Prod.mk.injEq] at H
    obtain ⟨rfl, rfl⟩ := H
    go_wp2_with (first | ((with_reducible refine gate_callee (f := 70) rfl ?_); refine goesM (some 26) Tryd.func70 #[.pointer (some ⟨g28004, 0, none⟩), .int .i64 12] ?_; (with_reducible refine (spec_l01Cur_once.calls g28004 t28001 x28005001_5 x28005002_5 12 true t28039 t28040 w _ ?side1 ?side2 A24.out).mono ?_); (case side1 => exact pIIsS141 HI28004); (case side2 => exact hbIsS141); rintro e w27 ⟨rfl, hi, hb, hk⟩; refine ⟨_, rfl, ?_⟩; replace HO_5 := Aside0.mk (Kd.R_mono (Kd.R_keep (IsS141.apart (show IsS141 w _ g28004 t28001 x28005001_5 x28005002_5 from pIIsS141 HI28004) (hrnR HO_5) (by decide)) hk (fun _ h => h.2)) (fun _ h => h.1)); replace HO_6 := Aside0.mk (Kd.N_mono (Kd.N_keep (Kd.N_mono (ok := fun k_ => (((w.heap.size ≤ k_)) ∧ (some k_ ≠ (.slice Ao9 t28005.length co9 : Value).ownBlock ∧ k_ ≠ g28004))) (hrnN HO_6) (fun k_ hk_ => (⟨hk_, hk_.2.2⟩ : _ ∧ k_ ≠ g28004))) hk (fun _ h => h.2)) (fun _ h => h.1)); replace HB := Aside0.mk (hb); replace HI28004 := Aside0.mk (hi); (try clear hb); (try clear hb2); (try clear hk); (try clear hi)) | ((with_reducible refine gate_callee (f := 71) rfl ?_); refine goesM (some 28) Tryd.func71 #[.pointer (some ⟨g28004, 0, none⟩), .int .i64 40] ?_; (with_reducible refine (spec_l01Cur_badText.calls kj5 g28004 t28001 t28039 t28040 40 t28041 t28044 t28045 w _ ?side1 ?side2 A26.out).mono ?_); (case side1 => exact pIIsS141 HI28004); (case side2 => exact hbIsS141); rintro e w28 ⟨v28042, rfl, ho0, hi, hb, hk⟩; refine ⟨_, rfl, ?_⟩; have HO28043 := Aside0.mk (Kd.R_lower (Kd.R_new' (Kd.R_newM (M := fun k_ => (w.heap.size ≤ k_)) ho0 (below_size hbIsS141) (fun k_ h_ => h_)) (Kd.R_lt (hrnR HO_5))) (below_size hbIsS141)); replace HO_5 := Aside0.mk (Kd.R_mono (Kd.R_told (Kd.R_oldK (IsS141.apart (show IsS141 w _ g28004 t28001 t28039 t28040 from pIIsS141 HI28004) (hrnR HO_5) (by decide)) hk) (Kd.R_base ho0)) (fun _ h_ => h_.1)); replace HO_6 := Aside0.mk (Kd.N_mono (Kd.N_told (Kd.N_oldK (Kd.N_mono (ok := fun k_ => (((w.heap.size ≤ k_)) ∧ (some k_ ≠ (.slice Ao9 t28005.length co9 : Value).ownBlock ∧ k_ ≠ g28004))) (hrnN HO_6) (fun k_ hk_ => (⟨hk_, hk_.2.2⟩ : _ ∧ k_ ≠ g28004))) hk) (Kd.R_base ho0)) (fun _ h_ => h_.1)); replace HB := Aside0.mk (hb); replace HI28004 := Aside0.mk (hi); (try clear hb); (try clear hb2); (try clear hk); (try clear hi); (try clear ho0)))
    go_ret2
    exact ⟨_, _, erf, by (with_reducible repeat (first | apply Kd.R_alloc | apply Kd.R_drewN | apply Kd.R_drew)); exact Kd.R_mono HO28043.out (fun _ hk => hk.1.1), by (with_reducible repeat (first | apply Kd.N_alloc | apply Kd.N_drewN | apply Kd.N_drew)); exact Kd.N_mono HO_6.out (fun _ hk => ⟨hk.1.1, hk.2⟩), hbIsS141⟩
   ·replace c25 := Bool.eq_false_iff.mpr c25
    subst c25
    have H1 : (some (t28005, x6_5)) = some (r1, r2) := by rw [if_neg (show ¬ (false = true) by decide)] at H; exact H
    clear H
    have H := H1
    clear H1
    simp only [Option.some.injEq, Prod.mk.injEq] at H
    obtain ⟨rfl, rfl⟩ := H
    go_wp2_with (first | ((with_reducible refine gate_callee (f := 70) rfl ?_); refine goesM (some 26) Tryd.func70 #[.pointer (some ⟨g28004, 0, none⟩), .int .i64 12] ?_; (with_reducible refine (spec_l01Cur_once.calls g28004 t28001 x28005001_5 x28005002_5 12 false t28039 t28040 w _ ?side1 ?side2 A24.out).mono ?_); (case side1 => exact pIIsS141 HI28004); (case side2 => exact hbIsS141); rintro e w29 ⟨rfl, hi, hb, hk⟩; refine ⟨_, rfl, ?_⟩; replace HO_5 := Aside0.mk (Kd.R_mono (Kd.R_keep (IsS141.apart (show IsS141 w _ g28004 t28001 x28005001_5 x28005002_5 from pIIsS141 HI28004) (hrnR HO_5) (by decide)) hk (fun _ h => h.2)) (fun _ h => h.1)); replace HO_6 := Aside0.mk (Kd.N_mono (Kd.N_keep (Kd.N_mono (ok := fun k_ => (((w.heap.size ≤ k_)) ∧ (some k_ ≠ (.slice Ao9 t28005.length co9 : Value).ownBlock ∧ k_ ≠ g28004))) (hrnN HO_6) (fun k_ hk_ => (⟨hk_, hk_.2.2⟩ : _ ∧ k_ ≠ g28004))) hk (fun _ h => h.2)) (fun _ h => h.1)); replace HB := Aside0.mk (hb); replace HI28004 := Aside0.mk (hi); (try clear hb); (try clear hb2); (try clear hk); (try clear hi)))
    go_ret2
    exact ⟨_, _, erf, (hrnR HO_5), by (with_reducible repeat (first | apply Kd.N_alloc | apply Kd.N_drewN | apply Kd.N_drew)); exact Kd.N_mono HO_6.out (fun _ hk => ⟨hk.1, hk.2.1⟩), hbIsS141⟩
def spec_EditsDo.l0 : Nat → List (S25) → List Int → Int → Option (List Int × Int)
 | 0, _, _, _ => none
 | k + 1, x1, x6, x7 => if x7 < (x1.length : Int) then (if 0 ≤ x7 then ((spec_EditDo.f k x6 ((rd_T25 x1 x7).f0) ((rd_T25 x1 x7).f1) ((rd_T25 x1 x7).f2)).bind fun bt29009 => (if bt29009.2 = true then (spec_EditsDo.l0 k x1 bt29009.1 (wrap64 (x7 + 1))) else (some (x6, x7)))) else (none)) else (some (x6, (x1.length : Int)))
def spec_EditsDo.f (k : Nat) (l0 : List Int) (l1 : List (S25)) : Option (List Int × Int) := (spec_TextOk.f k l0).bind fun t29001 => (if t29001 = true then ((some (([] : List Int) : List Int)).bind fun y29002 => (if y29002.length + l0.length < 140737488355328 then (spec_EditsDo.l0 k l1 (y29002 ++ l0) 0) else (none))) else (some (([] : List Int), (-1))))
set_option maxHeartbeats 8000000 in
set_option maxRecDepth 100000 in
theorem spec_EditsDo.calls (k : Nat) (A0 : Option Addr) (c0 : Nat) (l0 : List Int) (A1 : Option Addr) (c1 : Nat) (l1 : List (S25)) (r1 : List Int) (r2 : Int) (w : World) (hr0 : Kd.C (Kd.int .u8) w A0 l0.length l0) (hc0 : l0.length ≤ c0) (hr1 : Kd.C k25 w A1 l1.length l1) (hc1 : l1.length ≤ c1) (h : spec_EditsDo.f k l0 l1 = some (r1, r2)) :
  Calls Tryd.prog 28 #[.slice A0 l0.length c0, .slice A1 l1.length c1] w fun e w' => ∃ v0_ : Value, e = .returned (.tuple #[v0_, .int .i64 r2]) ∧ Kd.R (Kd.int .u8) 5 w' w.heap.size (fun _ => True) v0_ r1 ∧ Below w.heap.size w w' := by
 have hu25 := Tryd.underlying25
 have HR0 := Aside0.mk hr0
 have HC0 := Aside0.mk hc0
 clear hr0 hc0
 have HR1 := Aside0.mk hr1
 have HC1 := Aside0.mk hc1
 clear hr1 hc1
 have HB := Aside0.mk (Below.refl w.heap.size w)
 have H : ((spec_TextOk.f k l0).bind fun t29001 => (if t29001 = true then ((some (([] : List Int) : List Int)).bind fun y29002 => (if y29002.length + l0.length < 140737488355328 then (spec_EditsDo.l0 k l1 (y29002 ++ l0) 0) else (none))) else (some (([] : List Int), (-1))))) = some (r1, r2) := h
 clear h
 replace H := Option.bind_eq_some_iff.mp H
 obtain ⟨t29001, A30, H⟩ := H
 replace H : (if t29001 = true then ((some (([] : List Int) : List Int)).bind fun y29002 => (if y29002.length + l0.length < 140737488355328 then (spec_EditsDo.l0 k l1 (y29002 ++ l0) 0) else (none))) else (some (([] : List Int), (-1)))) = some (r1, r2) := H
 have A3 := Aside0.mk A30
 clear A30
 by_cases c4 : t29001 = true
 ·subst c4
  have H1 : ((some (([] : List Int) : List Int)).bind fun y29002 => (if y29002.length + l0.length < 140737488355328 then (spec_EditsDo.l0 k l1 (y29002 ++ l0) 0) else (none))) = some (r1, r2) := by rw [if_pos rfl] at H; exact H
  clear H
  have H := H1
  clear H1
  obtain ⟨y29002, hy29002⟩ : ∃ y_ : List Int, y_ = (([] : List Int)) := ⟨_, rfl⟩
  replace H : (if y29002.length + l0.length < 140737488355328 then (spec_EditsDo.l0 k l1 (y29002 ++ l0) 0) else (none)) = some (r1, r2) := repH hy29002 H
  have Ny29002 := Aside0.mk hy29002
  clear hy29002
  by_cases c5 : y29002.length + l0.length < 140737488355328
  ·rw [if_pos c5] at H
   have LMc5 := Aside0.mk c5
   clear c5
   obtain ⟨y29005, hy29005⟩ : ∃ y_ : List Int, y_ = (y29002 ++ l0) := ⟨_, rfl⟩
   replace H : (spec_EditsDo.l0 k l1 y29005 0) = some (r1, r2) := repH hy29005 H
   have Ny29005 := Aside0.mk hy29005
   clear hy29005
   have H' := Aside0.mk H
   clear H
   go_enter Tryd.func28, Tryd.ntmps28
   go_wp2_with (first | ((with_reducible refine gate_callee (f := 74) rfl ?_); refine goesM (some 11) Tryd.func74 #[.slice A0 l0.length c0] ?_; (with_reducible refine (spec_TextOk.calls k _ _ l0 true _ ?side1 ?side2 A3.out).mono ?_); (case side1 => exact cpl HR0.out); (case side2 => exact HC0.out); rintro e w6 ⟨rfl, hb⟩; refine ⟨_, rfl, ?_⟩; replace HB := Aside0.mk (below_step hbw hb); (try clear hb); (try clear hb2); (try clear hk); (try clear hi)) | ((with_reducible refine gate_dst (N := 13) rfl ?_); refine Kd.R_lit (Kd.int .u8) _ 5 ?hg (N := 13) ?hd (xs := ([] : List Int)) (inner := []) (ok := fun _ => True) (okp := fun _ => True) ?hr ?hp (fun _ hk => hk) trivial (Below.refl _ _) (Nat.le_refl _) (by simp) ?_; (case hd => rfl); (case hg => rfl); (case hr => first | (go_simp; done) | (go_simp; rfl)); (case hp => exact (Reps.none _ _)); intro v29003 w7 ho8 hb hg_ hnew_; clear hg_ hnew_; (first | rw [← Ny29002.out] at ho8 | (simp only [Int.reduceToNat] at ho8; rw [← Ny29002.out] at ho8)); have HO29004 := Aside0.mk (Kd.R_lower ho8 (below_size hbw)); replace HB := Aside0.mk (below_step hbw hb); clear hb ho8) | ((with_reducible refine gate_builtin (b := .append) (xs := #[.tmp 13, .tmp 14]) rfl ?_); at_builtin; refine Kd.R_append_rows (Kd.int .u8) (w0 := w) w.heap.size rfl (.tmp 13) (.tmp 14) 22 5 (.int .u8 0) 1 rfl Tryd.underlying22 info5 rfl (by decide) (by omega) v29003 y29002 l0 _ _ _ (fun _ => True) (fun _ => False) rfl rfl ?aO ?aR (fun _ _ h => h) (fun _ h => h.elim) ?aF ?aB ?aS ?aL ?_; (case aR => repeat (first | exact (Kd.C_below HR0.out HB.out) | (with_reducible refine Kd.C_alloc ?_ _) | (with_reducible refine Kd.C_drewN ?_ _) | (with_reducible refine Kd.C_drew ?_))); (case aB => exact hbw); (case aF => exact (fun _ _ => trivial)); (case aO => exact (hrnR HO29004)); (case aS => exact (below_size hbw)); (case aL => have := LMc5.out; omega); intro v29006 w9 ho hb hg hat; rw [← Ny29005.out] at ho; have HO29007 := Aside0.mk (ho); replace HB := Aside0.mk (hb); clear HO29004; clear ho hb hg hat))
   go_loopg [6, 7] k (fun kq v6 v7 w' => ∃ (x6_1 : List Int) (x7_1 : Int), v7 = .int .i64 x7_1 ∧ Aside0 (spec_EditsDo.l0 kq l1 x6_1 x7_1 = some (r1, r2)) ∧ Aside0 (kq ≤ k) ∧ Aside0 (Kd.R (Kd.int .u8) 5 w' w.heap.size (fun _ => True) v6 x6_1) ∧ Aside0 (Below w.heap.size w w'))
   case atStart => exact ⟨(y29005), (0), rfs, H', ⟨Nat.le_refl _⟩, ⟨(hrnR HO29007)⟩, ⟨hbw⟩⟩
   case round =>
    clear H'
    try clear c1
    try clear c2
    try clear p2
    try clear c4
    try clear c5
    try clear c7
    obtain ⟨x6_1, x7_1, rfl, HA, HK1, HO_6, HB⟩ := hrel
    cases gk with
    | zero => exact absurd HA.out (by simp [spec_EditsDo.l0])
    | succ k1 =>
     have H := HA.out
     clear HA
     simp only [spec_EditsDo.l0] at H
     by_cases c10 : x7_1 < (l1.length : Int)
     ·rw [if_pos c10] at H
      have c10b0 : decide (x7_1 < (l1.length : Int)) = true := decide_eq_true c10
      clear c10
      by_cases c11 : 0 ≤ x7_1
      ·rw [if_pos c11] at H
       have c11b0 : decide (0 ≤ x7_1) = true := decide_eq_true c11
       clear c11
       replace H := Option.bind_eq_some_iff.mp H
       obtain ⟨⟨t29009, t29012⟩, A120, H⟩ := H
       replace H : (if t29012 = true then (spec_EditsDo.l0 k1 l1 t29009 (wrap64 (x7_1 + 1))) else (some (x6_1, x7_1))) = some (r1, r2) := H
       have A12 := Aside0.mk A120
       clear A120
       by_cases c13 : t29012 = true
       ·subst c13
        have H1 : (spec_EditsDo.l0 k1 l1 t29009 (wrap64 (x7_1 + 1))) = some (r1, r2) := by rw [if_pos rfl] at H; exact H
        clear H
        have H := H1
        clear H1
        have H' := Aside0.mk H
        clear H
        have p29008 : 0 ≤ (x7_1 : Int) := odt
        have q29008 : x7_1 < (l1.length : Int) := odt
        obtain ⟨ad29008, A29008_2, c29008_2, e29008, hx29008_0, hx29008_1, hx29008_2, hl29008_2, hi29008_2⟩ := at_T25 HR1.out x7_1 p29008 q29008
        cases e29008
        replace hx29008_0 := (HB.out.cell (World.block_lt_of_cell? w _ hx29008_0)).trans hx29008_0
        replace hx29008_1 := (HB.out.cell (World.block_lt_of_cell? w _ hx29008_1)).trans hx29008_1
        replace hx29008_2 := (HB.out.cell (World.block_lt_of_cell? w _ hx29008_2)).trans hx29008_2
        have HR29008_2 := Aside0.mk hi29008_2
        have HC29008_2 := Aside0.mk hl29008_2
        clear hi29008_2 hl29008_2
        replace p29008 := eq_true p29008
        replace q29008 := eq_true q29008
        obtain ⟨Ao14, co14, eo14⟩ := Kd.R_slice HO_6.out
        subst eo14
        go_wp2_with (first | ((with_reducible refine gate_callee (f := 18) rfl ?_); refine goesM (some 28) Tryd.func18 #[.slice Ao14 x6_1.length co14, .agg #[.int .i64 ((rd_T25 l1 x7_1).f0), .int .i64 ((rd_T25 l1 x7_1).f1), .slice A29008_2 ((rd_T25 l1 x7_1).f2).length c29008_2]] ?_; (with_reducible refine (spec_EditDo.calls k1 _ _ x6_1 ((rd_T25 l1 x7_1).f0) ((rd_T25 l1 x7_1).f1) _ _ ((rd_T25 l1 x7_1).f2) t29009 true _ ?side1 ?side2 ?side3 ?side4 A12.out).mono ?_); (case side1 => exact cpl (Kd.R_reads' HO_6.out).2.2); (case side2 => exact (Kd.R_reads' HO_6.out).2.1); (case side3 => exact cpl (Kd.C_below HR29008_2.out HB.out)); (case side4 => exact HC29008_2.out); rintro e w15 ⟨v29010, rfl, ho0, hb⟩; refine ⟨_, rfl, ?_⟩; have HO29011 := Aside0.mk (Kd.R_lower (Kd.R_new' ho0 (Kd.R_lt (hrnR HO_6))) (below_size hbw)); replace HO_6 := Aside0.mk (Kd.R_elder' (hrnR HO_6) (Kd.R_base ho0) hb); replace HB := Aside0.mk (below_step hbw hb); (try clear hb); (try clear hb2); (try clear hk); (try clear hi); (try clear ho0)))
        go_roundg k1
        case measure => have := HK1.out; omega
        case rel => exact ⟨(t29009), (wrap64 (x7_1 + 1)), rfs, H', ⟨by have := HK1.out; omega⟩, ⟨by (with_reducible repeat (first | apply Kd.R_alloc | apply Kd.R_drewN | apply Kd.R_drew)); exact Kd.R_mono HO29011.out (fun _ hk => trivial)⟩, ⟨hbw⟩⟩
       ·replace c13 := Bool.eq_false_iff.mpr c13
        subst c13
        have H1 : (some (x6_1, x7_1)) = some (r1, r2) := by rw [if_neg (show ¬ (false = true) by decide)] at H; exact H
        clear H
        have H := H1
        clear H1
        simp only [Option.some.injEq, Prod.mk.injEq] at H
        obtain ⟨rfl, rfl⟩ := H
        have p29008 : 0 ≤ (x7_1 : Int) := odt
        have q29008 : x7_1 < (l1.length : Int) := odt
        obtain ⟨ad29008, A29008_2, c29008_2, e29008, hx29008_0, hx29008_1, hx29008_2, hl29008_2, hi29008_2⟩ := at_T25 HR1.out x7_1 p29008 q29008
        cases e29008
        replace hx29008_0 := (HB.out.cell (World.block_lt_of_cell? w _ hx29008_0)).trans hx29008_0
        replace hx29008_1 := (HB.out.cell (World.block_lt_of_cell? w _ hx29008_1)).trans hx29008_1
        replace hx29008_2 := (HB.out.cell (World.block_lt_of_cell? w _ hx29008_2)).trans hx29008_2
        have HR29008_2 := Aside0.mk hi29008_2
        have HC29008_2 := Aside0.mk hl29008_2
        clear hi29008_2 hl29008_2
        replace p29008 := eq_true p29008
        replace q29008 := eq_true q29008
        obtain ⟨Ao16, co16, eo16⟩ := Kd.R_slice HO_6.out
        subst eo16
        go_wp2_with (first | ((with_reducible refine gate_callee (f := 18) rfl ?_); refine goesM (some 28) Tryd.func18 #[.slice Ao16 x6_1.length co16, .agg #[.int .i64 ((rd_T25 l1 x7_1).f0), .int .i64 ((rd_T25 l1 x7_1).f1), .slice A29008_2 ((rd_T25 l1 x7_1).f2).length c29008_2]] ?_; (with_reducible refine (spec_EditDo.calls k1 _ _ x6_1 ((rd_T25 l1 x7_1).f0) ((rd_T25 l1 x7_1).f1) _ _ ((rd_T25 l1 x7_1).f2) t29009 false _ ?side1 ?side2 ?side3 ?side4 A12.out).mono ?_); (case side1 => exact cpl (Kd.R_reads' HO_6.out).2.2); (case side2 => exact (Kd.R_reads' HO_6.out).2.1); (case side3 => exact cpl (Kd.C_below HR29008_2.out HB.out)); (case side4 => exact HC29008_2.out); rintro e w17 ⟨v29010, rfl, ho0, hb⟩; refine ⟨_, rfl, ?_⟩; have HO29011 := Aside0.mk (Kd.R_lower (Kd.R_new' ho0 (Kd.R_lt (hrnR HO_6))) (below_size hbw)); replace HO_6 := Aside0.mk (Kd.R_elder' (hrnR HO_6) (Kd.R_base ho0) hb); replace HB := Aside0.mk (below_step hbw hb); (try clear hb); (try clear hb2); (try clear hk); (try clear hi); (try clear ho0)))
        go_ret2
        exact ⟨_, erf, by (with_reducible repeat (first | apply Kd.R_alloc | apply Kd.R_drewN | apply Kd.R_drew)); exact Kd.R_mono HO_6.out (fun _ hk => trivial), hbw⟩
      ·rw [if_neg c11] at H
       exact absurd H (by simp)
     ·rw [if_neg c10] at H
      have c10b0 : decide (x7_1 < (l1.length : Int)) = false := decide_eq_false c10
      clear c10
      simp only [Option.some.injEq, Prod.mk.injEq] at H
      obtain ⟨rfl, rfl⟩ := H
      go_wp2
      go_ret2
      exact ⟨_, erf, (hrnR HO_6), hbw⟩
  ·rw [if_neg c5] at H
   exact absurd H (by simp)
 ·replace c4 := Bool.eq_false_iff.mpr c4
  subst c4
  have H1 : (some (([] : List Int), (-1))) = some (r1, r2) := by rw [if_neg (show ¬ (false = true) by decide)] at H; exact H
  clear H
  have H := H1
  clear H1
  simp only [Option.some.injEq, Prod.mk.injEq] at H
  obtain ⟨rfl, rfl⟩ := H
  go_enter Tryd.func28, Tryd.ntmps28
  go_wp2_with (first | ((with_reducible refine gate_callee (f := 74) rfl ?_); refine goesM (some 11) Tryd.func74 #[.slice A0 l0.length c0] ?_; (with_reducible refine (spec_TextOk.calls k _ _ l0 false _ ?side1 ?side2 A3.out).mono ?_); (case side1 => exact cpl HR0.out); (case side2 => exact HC0.out); rintro e w18 ⟨rfl, hb⟩; refine ⟨_, rfl, ?_⟩; replace HB := Aside0.mk (below_step hbw hb); (try clear hb); (try clear hb2); (try clear hk); (try clear hi)))
  go_ret2
  exact ⟨_, erf, by first | exact Kd.R_nil _ _ _ _ _ | exact Kd.N_nil _ _ _ _ _ | exact Kd.V_nil _ _ _ _ _ | exact Kd.Q_nil _ _ _ _ _ | exact Kd.S_nil _ _ _ _ _, hbw⟩
end Go.Proofs.YteapbiiffcchbaaDoor.P
namespace Go.Proofs.YteapbiiffcchbaaDoor.G
open Go.RowKit Go.Proofs.YteapbiiffcchbaaDoorW.PrintWords Go.Proofs.YteapbiiffcchbaaDoorW.PrintLast Go.Proofs.YteapbiiffcchbaaDoorW.PrintMore
set_option linter.unusedVariables false
theorem ginfo5 : (Tryd.prog.info? 5).map (fun i => (i.zero, i.size, i.bytes)) = some (some (.int .u8 0), 1, 1) := by kernel_rfl
def slices_Clone_byte_byte.f (l0 : List Int) : Option (List Int) := if l0.length < 140737488355328 then some l0 else none
set_option maxHeartbeats 1000000 in
set_option maxRecDepth 100000 in
theorem slices_Clone_byte_byte.calls (A0 : Option Addr) (c0 : Nat) (l0 : List Int) (r : List Int) (w : World) (hr0 : Kd.C (Kd.int .u8) w A0 l0.length l0) (hc0 : l0.length ≤ c0) (h : slices_Clone_byte_byte.f l0 = some r) :
    Calls Tryd.prog 83 #[.slice A0 l0.length c0] w fun e w' => ∃ v0_ : Value, e = .returned (v0_) ∧ Kd.R (Kd.int .u8) 5 w' w.heap.size (fun _ => True) v0_ r ∧ Below w.heap.size w w' := by
  unfold slices_Clone_byte_byte.f at h
  by_cases hl : l0.length < 140737488355328
  · rw [if_pos hl] at h
    obtain rfl := Option.some.inj h
    have LM := Aside0.mk hl
    clear h hl
    have HB := Aside0.mk (Below.refl w.heap.size w)
    have HR0 := Aside0.mk hr0
    have HC0 := Aside0.mk hc0
    clear hr0 hc0
    have heq := fun W => Lib.run_eql_slice_nil (P := Tryd.prog) W 22 5 A0 l0.length c0 0 0 Tryd.underlying22
    cases A0 with
    | none =>
      have hnil : l0 = [] := by
        rcases Nat.eq_zero_or_pos l0.length with h0 | h0
        · exact List.eq_nil_of_length_eq_zero h0
        · obtain ⟨ad, e, _⟩ := HR0.out.2.2 h0
          cases e
      subst hnil
      clear heq
      have heq := fun W => Lib.run_eql_slice_nil (P := Tryd.prog) W 22 5 none 0 c0 0 0 Tryd.underlying22
      go_enter Tryd.func83, Tryd.ntmps83
      go_wp2
      go_ret
      exact ⟨_, rfl, Kd.R_nil _ _ _ _ _, HB.out⟩
    | some ad =>
      go_enter Tryd.func83, Tryd.ntmps83
      go_wp2_with (first | ((with_reducible refine gate_dst (N := 5) rfl ?_); refine Kd.R_lit (Kd.int .u8) _ 5 ?hg (N := 5) ?hd (xs := ([] : List Int)) (inner := []) (ok := fun _ => True) (okp := fun _ => True) ?hr ?hp (fun _ hk => hk) trivial (Below.refl _ _) (Nat.le_refl _) (by simp) ?_; (case hd => rfl); (case hg => rfl); (case hr => first | (go_simp; done) | (go_simp; rfl)); (case hp => exact (Reps.none _ _)); intro v3 w7 ho8 hb hg_ hnew_; clear hg_ hnew_; have n0_ := Aside0.mk (Kd.R_lower ho8 (below_size (by repeat (first | (with_reducible first | exact HB.out | apply below_alloc | apply pw_below_drewN | apply below_drew1) | exact HB.out)))); have n1_ := Aside0.mk (below_step (by repeat (first | (with_reducible first | exact HB.out | apply below_alloc | apply pw_below_drewN | apply below_drew1) | exact HB.out)) hb); clear HB; have HO4 := n0_; have HB := n1_; clear n0_ n1_; clear hb ho8) | ((with_reducible refine gate_builtin (b := .append) (xs := #[.tmp 5, .tmp 6]) rfl ?_); at_builtin; refine Kd.R_append_rows (Kd.int .u8) (w0 := w) w.heap.size rfl (.tmp 5) (.tmp 6) 22 5 (.int .u8 0) 1 rfl Tryd.underlying22 ginfo5 rfl (by decide) (by omega) v3 [] l0 _ _ _ (fun _ => True) (fun _ => False) rfl rfl ?aO ?aR (fun _ _ h => h) (fun _ h => h.elim) ?aF ?aB ?aS ?aL ?_; (case aR => repeat (first | exact (Kd.C_below HR0.out HB.out) | (with_reducible refine Kd.C_alloc ?_ _) | (with_reducible refine Kd.C_drewN ?_ _) | (with_reducible refine Kd.C_drew ?_))); (case aB => exact (by repeat (first | (with_reducible first | exact HB.out | apply below_alloc | apply pw_below_drewN | apply below_drew1) | exact HB.out))); (case aF => exact (fun _ _ => trivial)); (case aO => exact (by (with_reducible repeat (first | apply Kd.R_alloc | apply Kd.R_drewN | apply Kd.R_drew)); exact HO4.out)); (case aS => exact (below_size (by repeat (first | (with_reducible first | exact HB.out | apply below_alloc | apply pw_below_drewN | apply below_drew1) | exact HB.out)))); (case aL => have := LM.out; simp; omega); intro v6 w9 ho hb hg hat; rw [List.nil_append] at ho; have n0_ := Aside0.mk (hb); have n1_ := Aside0.mk (ho); clear HB; clear HO4; have HB := n0_; have HO7 := n1_; clear n0_ n1_; clear ho hb hg hat))
      go_ret
      exact ⟨_, rfl, HO7.out, HB.out⟩
  · rw [if_neg hl] at h
    cases h
def slices_Grow_byte_byte.f (l0 : List Int) (a1 : Int) : Option (List Int) := if 0 ≤ a1 then (if a1 < 140737488355328 then some ([] : List Int) else none) else none
set_option maxHeartbeats 1000000 in
set_option maxRecDepth 100000 in
theorem slices_Grow_byte_byte.calls (A0 : Option Addr) (c0 : Nat) (l0 : List Int) (a1 : Int) (r : List Int) (w : World) (hr0 : Kd.C (Kd.int .u8) w A0 l0.length l0) (hc0 : l0.length ≤ c0) (hN : A0 = none ∧ c0 = 0) (h : slices_Grow_byte_byte.f l0 a1 = some r) :
    Calls Tryd.prog 148 #[.slice A0 l0.length c0, .int .i64 a1] w fun e w' => ∃ v0_ : Value, e = .returned (v0_) ∧ Kd.R (Kd.int .u8) 5 w' w.heap.size (fun _ => True) v0_ r ∧ Below w.heap.size w w' := by
  obtain ⟨rfl, rfl⟩ := hN
  obtain rfl : l0 = [] := List.eq_nil_of_length_eq_zero (Nat.le_zero.1 hc0)
  unfold slices_Grow_byte_byte.f at h
  by_cases h0 : 0 ≤ a1
  · rw [if_pos h0] at h
    by_cases hl : a1 < 140737488355328
    · rw [if_pos hl] at h
      obtain rfl := Option.some.inj h
      clear h hr0 hc0
      have HB := Aside0.mk (Below.refl w.heap.size w)
      have hnn : ¬ a1 < 0 := by omega
      have hs0 : ∀ W, (Instr.slice 22 (.slice none 0 0) none (some (.int .i64 0)) none).run Tryd.prog W = .ok (.slice none 0 0) W := fun W => by kernel_rfl
      by_cases hp : 0 < a1
      · go_enter Tryd.func148, Tryd.ntmps148
        go_wp2_with (first | ((with_reducible refine gate_builtin (b := .append) (xs := #[.tmp 20, .tmp 21]) rfl ?_); at_builtin; refine Kd.R_append_zeros (Kd.int .u8) (w0 := w) w.heap.size rfl (.tmp 20) (.tmp 21) 22 3 5 (.int .u8 0) 1 rfl Tryd.underlying22 Tryd.underlying3 ginfo5 rfl (by decide) (by omega) (.slice none 0 0) [] 0 a1 (fun _ => True) rfl rfl ?aZ (fun _ _ => trivial) ?aO ?a0 ?aB ?aS ?aL ?_; (case aZ => rfl); (case aO => exact Kd.R_nil _ _ _ _ _); (case a0 => omega); (case aB => exact HB.out); (case aS => exact Nat.le_refl _); (case aL => simp; omega); intro v6 w9 ho hb hg hat; obtain ⟨A9, c9, e9⟩ := Kd.R_slice ho; have n0_ := Aside0.mk (hb); have n1_ := Aside0.mk (ho); clear HB; have HB := n0_; have HO7 := n1_; clear n0_ n1_; clear ho hb hg hat; subst e9))
        go_ret
        exact ⟨_, rfl, by have h_ := Kd.R_take (m := 0) HO7.out (Nat.zero_le _); rwa [List.take_zero] at h_, HB.out⟩
      · have hz : a1 = 0 := by omega
        subst hz
        go_enter Tryd.func148, Tryd.ntmps148
        go_wp2
        go_ret
        exact ⟨_, rfl, Kd.R_nil _ _ _ _ _, HB.out⟩
    · rw [if_neg hl] at h
      cases h
  · rw [if_neg h0] at h
    cases h
end Go.Proofs.YteapbiiffcchbaaDoor.G
