/- The law FnEditsDo (applying a list of edits in two parts has the same effect as applying it at once) returns true for every input and leaves its input as it was; conditions: the two tables of unicode/utf8 hold what the program's text lays (tied by the card). Part 4 of 5: joined by a program of the session's (wip/pack.py) out of its own texts and of the printed words, without remarks and without what nothing names. Not trusted: Lean checks it. -/
import Derived.Test.YteapbiiffcchbaaDoorE3
namespace Go.Proofs.YteapbiiffcchbaaDoor.P
open Go.Proofs.YteapbiiffcchbaaDoor.G
open Go.RowKit Go.Proofs.YteapbiiffcchbaaDoorW.PrintWords Go.Proofs.YteapbiiffcchbaaDoorW.PrintLast Go.Proofs.YteapbiiffcchbaaDoorW.PrintMore
attribute [local go_sem] max2_int min2_int max_two min_two max_three min_three max_four min_four
set_option linter.unusedVariables false
set_option linter.unusedSimpArgs false
mutual
def slices_Concat_byte_byte.l0 : Nat → List (List Int) → Int → List (List Int) → Int → Int → Option (List Int)
 | 0, _, _, _, _, _ => none
 | k + 1, x0, x3, x9, x10, x11 => if x11 < x10 then (if 0 ≤ x11 then (if x11 < (x9.length : Int) then (if (wrap64 (x3 + ((rd_L2 x9 x11).length : Int))) < 0 then (none) else (slices_Concat_byte_byte.l0 k x0 (wrap64 (x3 + ((rd_L2 x9 x11).length : Int))) x9 x10 (wrap64 (x11 + 1)))) else (none)) else (none)) else ((slices_Grow_byte_byte.f ([] : List Int) x3).bind fun t125002 => (slices_Concat_byte_byte.l1 k t125002 x0 (x0.length : Int) 0))
def slices_Concat_byte_byte.l1 : Nat → List Int → List (List Int) → Int → Int → Option (List Int)
 | 0, _, _, _, _ => none
 | k + 1, x6, x25, x26, x27 => if x27 < x26 then (if 0 ≤ x27 then (if x27 < (x25.length : Int) then (if x6.length + (rd_L2 x25 x27).length < 140737488355328 then (slices_Concat_byte_byte.l1 k (x6 ++ (rd_L2 x25 x27)) x25 x26 (wrap64 (x27 + 1))) else (none)) else (none)) else (none)) else (some x6)
end
def slices_Concat_byte_byte.f (k : Nat) (l0 : List (List Int)) : Option (List Int) := slices_Concat_byte_byte.l0 k l0 0 l0 (l0.length : Int) 0
set_option maxHeartbeats 8000000 in
set_option maxRecDepth 100000 in
theorem slices_Concat_byte_byte.calls (k : Nat) (A0 : Option Addr) (c0 : Nat) (l0 : List (List Int)) (r : List Int) (w : World) (hr0 : Kd.C (Kd.slice 5 (Kd.int .u8)) w A0 l0.length l0) (hc0 : l0.length ≤ c0) (h : slices_Concat_byte_byte.f k l0 = some r) :
  Calls Tryd.prog 124 #[.slice A0 l0.length c0] w fun e w' => ∃ v0_ : Value, e = .returned (v0_) ∧ Kd.R (Kd.int .u8) 5 w' w.heap.size (fun _ => True) v0_ r ∧ Below w.heap.size w w' := by
 have HR0 := Aside0.mk hr0
 have HC0 := Aside0.mk hc0
 clear hr0 hc0
 have HB := Aside0.mk (Below.refl w.heap.size w)
 have H : (slices_Concat_byte_byte.l0 k l0 0 l0 (l0.length : Int) 0) = some r := h
 clear h
 have H' := Aside0.mk H
 clear H
 go_enter Tryd.func124, Tryd.ntmps124
 go_wp2
 go_loopg [3, 11] k (fun kq v3 v11 w' => ∃ (x3_1 : Int) (x11_1 : Int), v3 = .int .i64 x3_1 ∧ v11 = .int .i64 x11_1 ∧ Aside0 (slices_Concat_byte_byte.l0 kq l0 x3_1 l0 (l0.length : Int) x11_1 = some r) ∧ Aside0 (kq ≤ k) ∧ Aside0 (Below w.heap.size w w'))
 case atStart => exact ⟨(0), (0), rfs, rfs, H', ⟨Nat.le_refl _⟩, ⟨hbw⟩⟩
 case round =>
  clear H'
  try clear c1
  obtain ⟨x3_1, x11_1, rfl, rfl, HA, HK1, HB⟩ := hrel
  cases gk with
  | zero => exact absurd HA.out (by simp [slices_Concat_byte_byte.l0])
  | succ k1 =>
   have H := HA.out
   clear HA
   simp only [slices_Concat_byte_byte.l0] at H
   by_cases c2 : x11_1 < (l0.length : Int)
   ·rw [if_pos c2] at H
    have c2b0 : decide (x11_1 < (l0.length : Int)) = true := decide_eq_true c2
    clear c2
    by_cases c3 : 0 ≤ x11_1
    ·rw [if_pos c3] at H
     have c3b0 : decide (0 ≤ x11_1) = true := decide_eq_true c3
     clear c3
     by_cases c4 : x11_1 < (l0.length : Int)
     ·rw [if_pos c4] at H
      have c4b0 : decide (x11_1 < (l0.length : Int)) = true := decide_eq_true c4
      clear c4
      by_cases c5 : (wrap64 (x3_1 + ((rd_L2 l0 x11_1).length : Int))) < 0
      ·rw [if_pos c5] at H
       exact absurd H (by simp)
      ·rw [if_neg c5] at H
       have c5b0 : decide ((wrap64 (x3_1 + ((rd_L2 l0 x11_1).length : Int))) < 0) = false := decide_eq_false c5
       clear c5
       have H' := Aside0.mk H
       clear H
       have p125001 : 0 ≤ (x11_1 : Int) := odt
       have q125001 : x11_1 < (l0.length : Int) := odt
       obtain ⟨ad125001, A125001_0, c125001_0, e125001, hx125001_0, hl125001_0, hi125001_0⟩ := at_L2 HR0.out x11_1 p125001 q125001
       cases e125001
       replace hx125001_0 := (HB.out.cell (World.block_lt_of_cell? w _ hx125001_0)).trans hx125001_0
       have HR125001_0 := Aside0.mk hi125001_0
       have HC125001_0 := Aside0.mk hl125001_0
       clear hi125001_0 hl125001_0
       replace p125001 := eq_true p125001
       replace q125001 := eq_true q125001
       go_wp2
       go_roundg k1
       case measure => have := HK1.out; omega
       case rel => exact ⟨(wrap64 (x3_1 + ((rd_L2 l0 x11_1).length : Int))), (wrap64 (x11_1 + 1)), rfs, rfs, H', ⟨by have := HK1.out; omega⟩, ⟨hbw⟩⟩
     ·rw [if_neg c4] at H
      exact absurd H (by simp)
    ·rw [if_neg c3] at H
     exact absurd H (by simp)
   ·rw [if_neg c2] at H
    have c2b0 : decide (x11_1 < (l0.length : Int)) = false := decide_eq_false c2
    clear c2
    replace H := Option.bind_eq_some_iff.mp H
    obtain ⟨t125002, A60, H⟩ := H
    replace H : (slices_Concat_byte_byte.l1 k1 t125002 l0 (l0.length : Int) 0) = some r := H
    have A6 := Aside0.mk A60
    clear A60
    have H' := Aside0.mk H
    clear H
    go_wp2_with (first | ((with_reducible refine gate_callee (f := 148) rfl ?_); refine goesM (some 24) Tryd.func148 #[.slice none 0 0, .int .i64 x3_1] ?_; (refine (slices_Grow_byte_byte.calls _ _ ([] : List Int) x3_1 t125002 _ ?side1 ?side2 ?side3 A6.out).mono ?_); (case side1 => exact Kd.C_nil _ _); (case side2 => exact Nat.le_refl _); (case side3 => exact ⟨rfl, rfl⟩); rintro e w7 ⟨v125003, rfl, ho0, hb⟩; refine ⟨_, rfl, ?_⟩; have HO125004 := Aside0.mk (Kd.R_lower ho0 (below_size hbw)); replace HB := Aside0.mk (below_step hbw hb); (try clear hb); (try clear hb2); (try clear hk); (try clear hi); (try clear ho0)))
    go_loopg [6, 27] k1 (fun kq v6 v27 w' => ∃ (x6_2 : List Int) (x27_2 : Int), v27 = .int .i64 x27_2 ∧ Aside0 (slices_Concat_byte_byte.l1 kq x6_2 l0 (l0.length : Int) x27_2 = some r) ∧ Aside0 (kq ≤ k1) ∧ Aside0 (Kd.R (Kd.int .u8) 5 w' w.heap.size (fun _ => True) v6 x6_2) ∧ Aside0 (Below w.heap.size w w'))
    case atStart => exact ⟨(t125002), (0), rfs, H', ⟨Nat.le_refl _⟩, ⟨(hrnR HO125004)⟩, ⟨hbw⟩⟩
    case round =>
     clear H'
     try clear c1
     try clear p1
     try clear q1
     try clear hx1
     try clear c2
     try clear c2b0
     try clear p2
     try clear c3
     try clear c3b0
     try clear c4
     try clear c4b0
     try clear c5
     try clear c5b0
     try clear p6
     try clear hx125001_0
     try clear p125001
     try clear q125001
     obtain ⟨x6_2, x27_2, rfl, HA, HK2, HO_6, HB⟩ := hrel
     cases gk with
     | zero => exact absurd HA.out (by simp [slices_Concat_byte_byte.l1])
     | succ k2 =>
      have H := HA.out
      clear HA
      simp only [slices_Concat_byte_byte.l1] at H
      by_cases c8 : x27_2 < (l0.length : Int)
      ·rw [if_pos c8] at H
       have c8b0 : decide (x27_2 < (l0.length : Int)) = true := decide_eq_true c8
       clear c8
       by_cases c9 : 0 ≤ x27_2
       ·rw [if_pos c9] at H
        have c9b0 : decide (0 ≤ x27_2) = true := decide_eq_true c9
        clear c9
        by_cases c10 : x27_2 < (l0.length : Int)
        ·rw [if_pos c10] at H
         have c10b0 : decide (x27_2 < (l0.length : Int)) = true := decide_eq_true c10
         clear c10
         by_cases c11 : x6_2.length + (rd_L2 l0 x27_2).length < 140737488355328
         ·rw [if_pos c11] at H
          have LMc11 := Aside0.mk c11
          clear c11
          obtain ⟨y125006, hy125006⟩ : ∃ y_ : List Int, y_ = (x6_2 ++ (rd_L2 l0 x27_2)) := ⟨_, rfl⟩
          replace H : (slices_Concat_byte_byte.l1 k2 y125006 l0 (l0.length : Int) (wrap64 (x27_2 + 1))) = some r := repH hy125006 H
          have Ny125006 := Aside0.mk hy125006
          clear hy125006
          have H' := Aside0.mk H
          clear H
          have p125005 : 0 ≤ (x27_2 : Int) := odt
          have q125005 : x27_2 < (l0.length : Int) := odt
          obtain ⟨ad125005, A125005_0, c125005_0, e125005, hx125005_0, hl125005_0, hi125005_0⟩ := at_L2 HR0.out x27_2 p125005 q125005
          cases e125005
          replace hx125005_0 := (HB.out.cell (World.block_lt_of_cell? w _ hx125005_0)).trans hx125005_0
          have HR125005_0 := Aside0.mk hi125005_0
          have HC125005_0 := Aside0.mk hl125005_0
          clear hi125005_0 hl125005_0
          replace p125005 := eq_true p125005
          replace q125005 := eq_true q125005
          go_wp2_with (first | ((with_reducible refine gate_builtin (b := .append) (xs := #[.tmp 31, .tmp 32]) rfl ?_); at_builtin; refine Kd.R_append_rows (Kd.int .u8) (w0 := w) w.heap.size rfl (.tmp 31) (.tmp 32) 22 5 (.int .u8 0) 1 rfl Tryd.underlying22 info5 rfl (by decide) (by omega) u6 x6_2 (rd_L2 l0 x27_2) _ _ _ (fun _ => True) (fun _ => False) rfl rfl ?aO ?aR (fun _ _ h => h) (fun _ h => h.elim) ?aF ?aB ?aS ?aL ?_; (case aR => repeat (first | exact (Kd.C_below HR125005_0.out HB.out) | (with_reducible refine Kd.C_alloc ?_ _) | (with_reducible refine Kd.C_drewN ?_ _) | (with_reducible refine Kd.C_drew ?_))); (case aB => exact hbw); (case aF => exact (fun _ _ => trivial)); (case aO => exact (hrnR HO_6)); (case aS => exact (below_size hbw)); (case aL => have := LMc11.out; omega); intro v125007 w12 ho hb hg hat; rw [← Ny125006.out] at ho; have HO125008 := Aside0.mk (ho); replace HB := Aside0.mk (hb); clear HO_6; clear ho hb hg hat))
          go_roundg k2
          case measure => have := HK1.out; have := HK2.out; omega
          case rel => exact ⟨(y125006), (wrap64 (x27_2 + 1)), rfs, H', ⟨by have := HK1.out; have := HK2.out; omega⟩, ⟨(hrnR HO125008)⟩, ⟨hbw⟩⟩
         ·rw [if_neg c11] at H
          exact absurd H (by simp)
        ·rw [if_neg c10] at H
         exact absurd H (by simp)
       ·rw [if_neg c9] at H
        exact absurd H (by simp)
      ·rw [if_neg c8] at H
       have c8b0 : decide (x27_2 < (l0.length : Int)) = false := decide_eq_false c8
       clear c8
       obtain rfl := Option.some.inj H
       go_wp2
       go_ret
       exact ⟨_, erf, (hrnR HO_6), hbw⟩
def impl_Edit_do.f (k : Nat) (a0_0 : Int) (a0_1 : Int) (l0_2 : List Int) (l1 : List Int) : Option (List Int) := if 0 ≤ a0_0 then (if a0_0 ≤ (l1.length : Int) then (if 0 ≤ (wrap64 (a0_0 + a0_1)) then (if (wrap64 (a0_0 + a0_1)) ≤ (l1.length : Int) then ((slices_Concat_byte_byte.f k (([(l1.take (a0_0 : Int).toNat), l0_2, (l1.drop ((wrap64 (a0_0 + a0_1)) : Int).toNat)] : List (List Int)))).bind fun t69015 => (some t69015)) else (none)) else (none)) else (none)) else (none)
def impl_Edit_do.T1 : Bool × List (List Nat × List Nat) := (true, [([], []), ([], []), ([1], [1]), ([0, 2], [0, 2]), ([], []), ([4], [4]), ([], []), ([], []), ([7], [7]), ([], []), ([9], [9]), ([8, 10], [8, 10]), ([6, 11], [6, 11]), ([3, 5, 12], [3, 5, 12]), ([13], [13]), ([14, 14, 0, 1, 2, 3, 4, 5, 6, 7, 8, 9, 10, 11, 12, 13, 14], [14])])
def impl_Edit_do.B1 : List Nat := [0, 0, 2, 7, 0, 16, 0, 0, 128, 0, 512, 1920, 4032, 8191, 16383, 32767]
theorem impl_Edit_do.tab1 : rtab .any (opsOf Tryd.f68 1) = impl_Edit_do.T1 := by kernel_rfl
theorem impl_Edit_do.bits1 : waitsOk impl_Edit_do.T1.2 impl_Edit_do.B1 = true := by kernel_rfl
set_option maxHeartbeats 8000000 in
set_option maxRecDepth 100000 in
theorem impl_Edit_do.calls (k : Nat) (a0_0 : Int) (a0_1 : Int) (P0_2_ : Nat → Prop) (A0_2 : Option Addr) (c0_2 : Nat) (l0_2 : List Int) (P1_ : Nat → Prop) (A1 : Option Addr) (c1 : Nat) (l1 : List Int) (r : List Int) (w : World) (hs0_2 : Kd.V (Kd.int .u8) 5 w w.heap.size (fun k_ => P0_2_ k_) (.slice A0_2 l0_2.length c0_2) l0_2) (hs1 : Kd.V (Kd.int .u8) 5 w w.heap.size (fun k_ => P1_ k_) (.slice A1 l1.length c1) l1) (h : impl_Edit_do.f k a0_0 a0_1 l0_2 l1 = some r) :
  Calls Tryd.prog 68 #[.agg #[.int .i64 a0_0, .int .i64 a0_1, .slice A0_2 l0_2.length c0_2], .slice A1 l1.length c1] w fun e w' => ∃ v0_ : Value, e = .returned (v0_) ∧ Kd.R (Kd.int .u8) 5 w' w.heap.size (fun k_ => (w.heap.size ≤ k_)) v0_ r ∧ Below w.heap.size w w' := by
 have hu25 := Tryd.underlying25
 have HO0_2 := Aside0.mk (show Kd.V (Kd.int .u8) 5 w w.heap.size (fun k_ => ((P0_2_ k_ ∨ P1_ k_) ∨ w.heap.size ≤ k_)) (.slice A0_2 l0_2.length c0_2) l0_2 from Kd.V_mono hs0_2 (fun k_ hk => .inl (.inl hk)))
 have HO1 := Aside0.mk (show Kd.V (Kd.int .u8) 5 w w.heap.size (fun k_ => ((P0_2_ k_ ∨ P1_ k_) ∨ w.heap.size ≤ k_)) (.slice A1 l1.length c1) l1 from Kd.V_mono hs1 (fun k_ hk => .inl (.inr hk)))
 have HB := Aside0.mk (Below.refl w.heap.size w)
 have H : (if 0 ≤ a0_0 then (if a0_0 ≤ (l1.length : Int) then (if 0 ≤ (wrap64 (a0_0 + a0_1)) then (if (wrap64 (a0_0 + a0_1)) ≤ (l1.length : Int) then ((slices_Concat_byte_byte.f k (([(l1.take (a0_0 : Int).toNat), l0_2, (l1.drop ((wrap64 (a0_0 + a0_1)) : Int).toNat)] : List (List Int)))).bind fun t69015 => (some t69015)) else (none)) else (none)) else (none)) else (none)) = some r := h
 clear h
 by_cases c3 : 0 ≤ a0_0
 ·rw [if_pos c3] at H
  have c3b0 := eq_true c3
  have c3b1 : decide (0 ≤ a0_0) = true := decide_eq_true c3
  clear c3
  by_cases c4 : a0_0 ≤ (l1.length : Int)
  ·rw [if_pos c4] at H
   have c4b0 := eq_true c4
   have c4b1 : decide (a0_0 ≤ (l1.length : Int)) = true := decide_eq_true c4
   clear c4
   obtain ⟨y69002, hy69002⟩ : ∃ y_ : List Int, y_ = (l1.take (a0_0 : Int).toNat) := ⟨_, rfl⟩
   replace H : (if 0 ≤ (wrap64 (a0_0 + a0_1)) then (if (wrap64 (a0_0 + a0_1)) ≤ (l1.length : Int) then ((slices_Concat_byte_byte.f k (([y69002, l0_2, (l1.drop ((wrap64 (a0_0 + a0_1)) : Int).toNat)] : List (List Int)))).bind fun t69015 => (some t69015)) else (none)) else (none)) = some r := repH hy69002 H
   have Ny69002 := Aside0.mk hy69002
   clear hy69002
   obtain ⟨ji5, hji5⟩ : ∃ j_ : Int, (wrap64 (a0_0 + a0_1)) = j_ := ⟨_, rfl⟩
   replace H : (if 0 ≤ (ji5) then (if (ji5) ≤ (l1.length : Int) then ((slices_Concat_byte_byte.f k (([y69002, l0_2, (l1.drop ((ji5) : Int).toNat)] : List (List Int)))).bind fun t69015 => (some t69015)) else (none)) else (none)) = some r := by first | (rw [hji5] at H; exact H) | (simp only [hji5] at H ⊢; exact H)
   have hji5w : (IntKind.i64.wrap (a0_0 + a0_1)) = ji5 := (i64_w _).trans hji5
   by_cases c6 : 0 ≤ (ji5)
   ·rw [if_pos c6] at H
    have c6b0 := eq_true c6
    have c6b1 : decide (0 ≤ (ji5)) = true := decide_eq_true c6
    clear c6
    by_cases c7 : (ji5) ≤ (l1.length : Int)
    ·rw [if_pos c7] at H
     have c7b0 := eq_true c7
     have c7b1 : decide ((ji5) ≤ (l1.length : Int)) = true := decide_eq_true c7
     clear c7
     obtain ⟨y69007, hy69007⟩ : ∃ y_ : List Int, y_ = (l1.drop ((ji5) : Int).toNat) := ⟨_, rfl⟩
     replace H : ((slices_Concat_byte_byte.f k (([y69002, l0_2, y69007] : List (List Int)))).bind fun t69015 => (some t69015)) = some r := repH hy69007 H
     have Ny69007 := Aside0.mk hy69007
     clear hy69007
     obtain ⟨y69012, hy69012⟩ : ∃ y_ : List (List Int), y_ = (([y69002, l0_2, y69007] : List (List Int))) := ⟨_, rfl⟩
     replace H : ((slices_Concat_byte_byte.f k y69012).bind fun t69015 => (some t69015)) = some r := repH hy69012 H
     have Ny69012 := Aside0.mk hy69012
     clear hy69012
     replace H := Option.bind_eq_some_iff.mp H
     obtain ⟨t69015, A80, H⟩ := H
     replace H : (some t69015) = some r := H
     have A8 := Aside0.mk A80
     clear A80
     obtain rfl := Option.some.inj H
     go_enter Tryd.func68, Tryd.ntmps68
     try go_wp2_with (first | ((with_reducible refine gate_dst (N := 2) rfl ?_); refine boxE 2 #[.int .i64 a0_0, .int .i64 a0_1, .slice A0_2 l0_2.length c0_2] 25 ?_; intro gb69001 hg w9 BK69001 hb; have GW69001 := Aside0.mk (gsz hg hbw : w.heap.size ≤ gb69001); have GE69001 := GW69001; replace HO0_2 := Aside0.mk (Kd.V_below (Kd.V_elderB (hrnV HO0_2) gb69001 (Nat.le_of_eq hg.symm)) hb); replace HO1 := Aside0.mk (Kd.V_below (Kd.V_elderB (hrnV HO1) gb69001 (Nat.le_of_eq hg.symm)) hb); replace HB := Aside0.mk (below_step hbw hb); clear hb hg))
     replace HO0_2 := Aside0.mk (Kd.V_drew HO0_2.out)
     replace HO1 := Aside0.mk (Kd.V_drew HO1.out)
     replace BK69001 := Aside0.mk (blk_drew BK69001.out)
     replace HB := Aside0.mk (below_drew1 HB.out)
     have q11 : (a0_0 : Int) ≤ ((l1.length : Int) : Int) := odt
     obtain ⟨i011, hi011, _, hsz11, _⟩ := info_parts info5
     have hroom11 : l1.length ≤ c1 := (Kd.V_reads' HO1.out).2.1
     have hC11 : Kd.F (Kd.int .u8) _ _ A1 l1.length l1 := (Kd.V_at (base := w.heap.size) HO1.out).2.2
     have hcut11 := cut_to (P := Tryd.prog) 22 5 .i64 Tryd.underlying22 hi011 A1 l1.length c1 a0_0 (odt) q11 hroom11
     have hr11 := Kd.F_take (m := (a0_0 : Int).toNat) hC11 (by omega)
     have hy11 : y69002.length = (a0_0 : Int).toNat := (by rw [Ny69002.out, List.length_take]; omega)
     rw [← Ny69002.out] at hr11
     rw [← hy11] at hcut11
     have HO69006 := Aside0.mk (show Kd.V (Kd.int .u8) 5 _ w.heap.size _ (.slice A1 y69002.length c1) y69002 from Kd.V_mk (by omega) hr11)
     have HC69006 := Aside0.mk (show y69002.length ≤ c1 from by omega)
     clear hr11 hC11 hroom11 hi011 hsz11
     have KY11 := Aside0.mk hy11
     clear hy11
     replace q11 := eq_true q11
     have q12 : ((ji5) : Int) ≤ ((l1.length : Int) : Int) := odt
     obtain ⟨i012, hi012, _, hsz12, _⟩ := info_parts info5
     have hroom12 : l1.length ≤ c1 := (Kd.V_reads' HO1.out).2.1
     have hC12 : Kd.F (Kd.int .u8) _ _ A1 l1.length l1 := (Kd.V_at (base := w.heap.size) HO1.out).2.2
     have q012 : (0 : Int) ≤ ((ji5) : Int) := odt
     have hcut12 := cut_from (P := Tryd.prog) 22 5 .i64 Tryd.underlying22 hi012 1 hsz12 A1 l1.length c1 (ji5) q012 q12
     have hr12 := Kd.F_cut (m := ((ji5) : Int).toNat) (c := c1) hC12 (by omega) hroom12
     obtain ⟨A12, hA12⟩ : ∃ A1_, A1_ = (if c1 = ((ji5) : Int).toNat then A1 else (A1 : Option Addr).map (·.add (((ji5) : Int).toNat * 1))) := ⟨_, rfl⟩
     obtain ⟨c12, hc12⟩ : ∃ c1_, c1_ = c1 - ((ji5) : Int).toNat := ⟨_, rfl⟩
     have hy12 : y69007.length = l1.length - ((ji5) : Int).toNat := (by rw [Ny69007.out, List.length_drop] <;> omega)
     rw [show (l1).drop ((ji5) : Int).toNat = y69007 from Ny69007.out.symm] at hr12
     replace hr12 : Kd.F (Kd.int .u8) _ _ A12 y69007.length y69007 := (by rw [hA12]; exact hr12)
     rw [← hy12, ← hA12, ← hc12] at hcut12
     have HO69011 := Aside0.mk (show Kd.V (Kd.int .u8) 5 _ w.heap.size _ (.slice A12 y69007.length c12) y69007 from Kd.V_mk (by rw [hy12, hc12]; exact Nat.sub_le_sub_right hroom12 _) hr12)
     have HC69011 := Aside0.mk (show y69007.length ≤ c12 from by rw [hy12, hc12]; exact Nat.sub_le_sub_right hroom12 _)
     clear hr12 hC12 hroom12 hi012 hsz12 hc12
     have KY12 := Aside0.mk hy12
     have KA12 := Aside0.mk hA12
     clear hy12 hA12
     replace q12 := eq_true q12
     refine start_ (n := 16) (S := fun w' => w'.cell? ⟨gb69001, 0, none⟩ = some (.int .i64 a0_0) ∧ w'.cell? ⟨gb69001, 1, none⟩ = some (.int .i64 a0_1) ∧ w'.cell? ⟨gb69001, 2, none⟩ = some (.slice A0_2 l0_2.length c0_2)) (ds := []) #[false, false, false, false, false, false, false, false, false, false, false, false, false, false, false, false] (by kernel_rfl) rfl rfl ⟨(blk_cell BK69001.out 0).trans rfl, (blk_cell BK69001.out 1).trans rfl, (blk_cell BK69001.out 2).trans rfl⟩ (fun hHeld => ?_); refine with_tabW impl_Edit_do.tab1 impl_Edit_do.bits1 (fun HT_ HW_ => ?_)
     generalize w9.drew = w10 at HO0_2 HO1 BK69001 HB HO69006 HO69011 hHeld ⊢
     refine pureM 0 (some 5) (bz 16 0x1) (any_of HT_.out (by kernel_rfl)) ?_
     refine pureM 1 (some 6) (bz 16 0x3) (any_of HT_.out (by kernel_rfl)) ?_
     refine pureM 4 (some 9) (bz 16 0x13) (any_of HT_.out (by kernel_rfl)) ?_
     refine pureM 6 (some 11) (bz 16 0x53) (any_of HT_.out (by kernel_rfl)) ?_
     refine pureM 7 (some 12) (bz 16 0xd3) (any_of HT_.out (by kernel_rfl)) ?_
     refine pureM 9 (some 14) (bz 16 0x2d3) (any_of HT_.out (by kernel_rfl)) ?_
     refine takeM 2 (some 7) (bz 16 0x2d7) (take_ofW HT_.out HW_.out (by kernel_rfl)) hHeld ?_
     refine pureM 3 (some 8) (bz 16 0x2df) (any_of HT_.out (by kernel_rfl)) ?_
     refine takeM 5 (some 10) (bz 16 0x2ff) (take_ofW HT_.out HW_.out (by kernel_rfl)) hHeld ?_
     refine takeM 8 (some 13) (bz 16 0x3ff) (take_ofW HT_.out HW_.out (by kernel_rfl)) hHeld ?_
     refine takeM 10 (some 15) (bz 16 0x7ff) (take_ofW HT_.out HW_.out (by kernel_rfl)) hHeld ?_
     refine pureM 11 (some 16) (bz 16 0xfff) (any_of HT_.out (by kernel_rfl)) ?_
     refine pureM 12 (some 17) (bz 16 0x1fff) (any_of HT_.out (by kernel_rfl)) ?_
     refine one_ (i := 13) (N := some 18) (bz 16 0x3fff) rfl rfl (one_of HT_.out (by kernel_rfl)) (by decide) (fun K hK => ?_)
     refine Kd.N_lit_step (Kd.slice 5 (Kd.int .u8)) _ 22 ?hg (N' := 18) ?hd (xs := ([y69002, l0_2, y69007] : List (List Int))) (inner := [.slice A1 y69002.length c1, .slice A0_2 l0_2.length c0_2, .slice A12 y69007.length c12]) (ok := (fun k_ => ((P0_2_ k_ ∨ P1_ k_) ∨ w.heap.size ≤ k_) ∧ k_ ≠ gb69001)) (okp := (fun k_ => ((P0_2_ k_ ∨ P1_ k_) ∨ w.heap.size ≤ k_) ∧ k_ ≠ gb69001)) ?hr ?hp (fun _ hk => hk) ((show ∀ k_, w10.heap.size ≤ k_ → (fun k_ => ((P0_2_ k_ ∨ P1_ k_) ∨ w.heap.size ≤ k_) ∧ k_ ≠ gb69001) k_ from fun k_ hk => ⟨(.inr (Nat.le_trans (below_size hbs) hk)), Kd.freshB (g := gb69001) (o := .cells #[.int .i64 a0_0, .int .i64 a0_1, .slice A0_2 l0_2.length c0_2] 25 (0, 0)) (by refine pB ?_; exact BK69001.out) k_ hk⟩) _ (Nat.le_refl _)) (Below.refl _ _) (Nat.le_refl _) (by simp) ?_; (case hd => rfl); (case hg => rfl); (case hr => first | (go_simp; done) | (go_simp; rfl)); (case hp => exact (Reps.one (show Kd.FK (Kd.slice 5 (Kd.int .u8)) _ _ y69002 [.slice A1 y69002.length c1] from (Kd.FK_slice_mk (Kd.V_reads' (Kd.V_mono (ok' := (fun k_ => ((P0_2_ k_ ∨ P1_ k_) ∨ w.heap.size ≤ k_) ∧ k_ ≠ gb69001)) (HO69006.out) (fun k_ hk => ⟨hk.1, hk.2⟩))).2.1 (Kd.V_F (Kd.V_mono (ok' := (fun k_ => ((P0_2_ k_ ∨ P1_ k_) ∨ w.heap.size ≤ k_) ∧ k_ ≠ gb69001)) (HO69006.out) (fun k_ hk => ⟨hk.1, hk.2⟩))))) (Reps.one (show Kd.FK (Kd.slice 5 (Kd.int .u8)) _ _ l0_2 [.slice A0_2 l0_2.length c0_2] from (Kd.FK_slice_mk (Kd.V_reads' (Kd.V_mono (ok' := (fun k_ => ((P0_2_ k_ ∨ P1_ k_) ∨ w.heap.size ≤ k_) ∧ k_ ≠ gb69001)) (HO0_2.out) (fun k_ hk => ⟨hk.1, hk.2⟩))).2.1 (Kd.V_F (Kd.V_mono (ok' := (fun k_ => ((P0_2_ k_ ∨ P1_ k_) ∨ w.heap.size ≤ k_) ∧ k_ ≠ gb69001)) (HO0_2.out) (fun k_ hk => ⟨hk.1, hk.2⟩))))) (Reps.one (show Kd.FK (Kd.slice 5 (Kd.int .u8)) _ _ y69007 [.slice A12 y69007.length c12] from (Kd.FK_slice_mk (Kd.V_reads' (Kd.V_mono (ok' := (fun k_ => ((P0_2_ k_ ∨ P1_ k_) ∨ w.heap.size ≤ k_) ∧ k_ ≠ gb69001)) (HO69011.out) (fun k_ hk => ⟨hk.1, hk.2⟩))).2.1 (Kd.V_F (Kd.V_mono (ok' := (fun k_ => ((P0_2_ k_ ∨ P1_ k_) ∨ w.heap.size ≤ k_) ∧ k_ ≠ gb69001)) (HO69011.out) (fun k_ hk => ⟨hk.1, hk.2⟩))))) (Reps.none _ _)))))
     intro v69013 w13 ho14 hb hg_ hnew_
     clear hg_ hnew_
     (first | rw [← Ny69012.out] at ho14 | (simp only [Int.reduceToNat] at ho14; rw [← Ny69012.out] at ho14))
     have HO69014 := Aside0.mk (Kd.N_lower ho14 (below_size hbs))
     replace HO0_2 := Aside0.mk (Kd.V_elder' (hrnV HO0_2) (Kd.N_base ho14) hb)
     replace HO1 := Aside0.mk (Kd.V_elder' (hrnV HO1) (Kd.N_base ho14) hb)
     replace HO69006 := Aside0.mk (Kd.V_elder' (hrnV HO69006) (Kd.N_base ho14) hb)
     replace HO69011 := Aside0.mk (Kd.V_elder' (hrnV HO69011) (Kd.N_base ho14) hb)
     replace BK69001 := Aside0.mk (bkb BK69001 hb)
     replace HB := Aside0.mk (below_step hbs hb)
     clear hb ho14
     obtain ⟨Ao15, co15, eo15⟩ := Kd.N_slice HO69014.out
     (first | subst eo15 | (injection eo15 with f1_ f2_ f3_; have f4_ := f1_.symm; have f5_ := f3_.symm; clear f1_ f2_ f3_; subst f4_; subst f5_))
     refine hK.out _ _ ⟨(blk_cell BK69001.out 0).trans rfl, (blk_cell BK69001.out 1).trans rfl, (blk_cell BK69001.out 2).trans rfl⟩ (fun hHeld => ?_)
     clear hK K
     refine norm_ (a' := ?_) ?_ ?_
     rotate_left
     ·show Act.put _ (some 18) _ = _
      simp only [Act.put, List.setIfInBounds_toArray, List.set_cons_zero, List.set_cons_succ, i64_w, i32_w]
      rfl
     refine one_ (i := 14) (N := some 19) (bz 16 0x7fff) rfl rfl (one_of HT_.out (by kernel_rfl)) (by decide) (fun K hK => ?_)
     refine goes_ Tryd.func124 (by kernel_rfl) rfl #[.slice Ao15 y69012.length co15] (by rfl) rfl rfl (by (try simp only [List.map_toArray, List.map_cons, List.map_nil]); first | done | rfl | (simp only [List.length_drop, List.length_take]; rfl)) ?_
     with_reducible refine (slices_Concat_byte_byte.calls k _ _ y69012 t69015 _ ?side1 ?side2 A8.out).mono ?_
     (case side1 => exact cpl (Kd.N_reads' HO69014.out).2.2)
     (case side2 => exact (Kd.N_reads' HO69014.out).2.1)
     rintro e w16 ⟨v69016, rfl, ho0, hb⟩
     refine ⟨_, rfl, ?_⟩
     have HO69017 := Aside0.mk (Kd.R_lower (Kd.R_newM (M := fun k_ => (w.heap.size ≤ k_)) ho0 (below_size hbs) (fun k_ h_ => h_)) (below_size hbs))
     replace HO0_2 := Aside0.mk (Kd.V_elder' (hrnV HO0_2) (Kd.R_base ho0) hb)
     replace HO1 := Aside0.mk (Kd.V_elder' (hrnV HO1) (Kd.R_base ho0) hb)
     replace HO69006 := Aside0.mk (Kd.V_elder' (hrnV HO69006) (Kd.R_base ho0) hb)
     replace HO69011 := Aside0.mk (Kd.V_elder' (hrnV HO69011) (Kd.R_base ho0) hb)
     replace HO69014 := Aside0.mk (Kd.N_elder' (hrnN HO69014) (Kd.R_base ho0) hb)
     replace BK69001 := Aside0.mk (bkb BK69001 hb)
     replace HB := Aside0.mk (below_step hbs hb)
     (try clear hb)
     (try clear hb2)
     (try clear hk)
     (try clear hi)
     (try clear ho0)
     refine hK.out _ _ ⟨(blk_cell BK69001.out 0).trans rfl, (blk_cell BK69001.out 1).trans rfl, (blk_cell BK69001.out 2).trans rfl⟩ (fun hHeld => ?_)
     clear hK K
     refine norm_ (a' := ?_) ?_ ?_
     rotate_left
     ·show Act.put _ (some 19) _ = _
      simp only [Act.put, List.setIfInBounds_toArray, List.set_cons_zero, List.set_cons_succ, i64_w, i32_w]
      rfl
     refine pureM 15 (some 4) (bz 16 0xffff) (any_of HT_.out (by kernel_rfl)) ?_
     refine done_ (done_of HT_.out (by kernel_rfl)) ?_
     try go_wp2
     go_ret
     exact ⟨_, by first | rfl | (simp [errW_none, errW_some] <;> rfl) | (simp only [← hji5]; first | rfl | (simp [errW_none, errW_some] <;> rfl)) | (simp [*, errW_none, errW_some] <;> rfl), by (with_reducible repeat (first | apply Kd.R_alloc | apply Kd.R_drewN | apply Kd.R_drew)); exact Kd.R_mono HO69017.out (fun _ hk => hk.1), hbs⟩
    ·rw [if_neg c7] at H
     exact absurd H (by simp)
   ·rw [if_neg c6] at H
    exact absurd H (by simp)
  ·rw [if_neg c4] at H
   exact absurd H (by simp)
 ·rw [if_neg c3] at H
  exact absurd H (by simp)
def impl_in.f (a0 : Int) (a1 : Int) (a2 : Int) : Option (Bool) := if a1 ≤ a0 then (some (decide (a0 ≤ a2))) else (some false)
set_option maxHeartbeats 8000000 in
set_option maxRecDepth 100000 in
theorem impl_in.calls (a0 : Int) (a1 : Int) (a2 : Int) (r : Bool) (w : World) (h : impl_in.f a0 a1 a2 = some r) :
  Calls Tryd.prog 123 #[.int .i64 a0, .int .i64 a1, .int .i64 a2] w fun e w' => e = .returned (.bool r) ∧ Drawn0 w w' := by
 have H : (if a1 ≤ a0 then (some (decide (a0 ≤ a2))) else (some false)) = some r := h
 clear h
 by_cases c4 : a1 ≤ a0
 ·rw [if_pos c4] at H
  have c4b0 : decide (a1 ≤ a0) = true := decide_eq_true c4
  clear c4
  obtain rfl := Option.some.inj H
  go_enter Tryd.func123, Tryd.ntmps123
  go_wp2
  go_ret
  exact ⟨by first | rfl | (simp; done) | (simp [*]; done), by repeat (first | exact Drawn0.refl _ | apply Drawn0.step)⟩
 ·rw [if_neg c4] at H
  have c4b0 : decide (a1 ≤ a0) = false := decide_eq_false c4
  clear c4
  obtain rfl := Option.some.inj H
  go_enter Tryd.func123, Tryd.ntmps123
  go_wp2
  go_ret
  exact ⟨by first | rfl | (simp; done) | (simp [*]; done), by repeat (first | exact Drawn0.refl _ | apply Drawn0.step)⟩
end Go.Proofs.YteapbiiffcchbaaDoor.P
namespace Go.Proofs.YteapbiiffcchbaaDoor.G
open Go.RowKit Go.Proofs.YteapbiiffcchbaaDoorW.PrintWords Go.Proofs.YteapbiiffcchbaaDoorW.PrintLast Go.Proofs.YteapbiiffcchbaaDoorW.PrintMore Go.Proofs.YteapbiiffcchbaaDoor.P
set_option linter.unusedVariables false
def gtab1 : List S161 := (List.range 16).map fun i => ⟨((Lib.accLo i : Nat) : Int), ((Lib.accHi i : Nat) : Int)⟩
theorem rd_gtab1 (j : Int) (h0 : 0 ≤ j) (h1 : j < 16) : rd_T161 gtab1 j = ⟨((Lib.accLo j.toNat : Nat) : Int), ((Lib.accHi j.toNat : Nat) : Int)⟩ := by
  unfold rd_T161 gtab1
  rw [List.getD_eq_getElem?_getD, List.getElem?_map, List.getElem?_range (show j.toNat < 16 by omega)]
  rfl
theorem GTab.at1_0 {w : World} (h : GTab w) (j : Int) (h0 : 0 ≤ j) (h1 : j < 16) : w.cell? ⟨1, j.toNat * 2, none⟩ = some (.int .u8 (rd_T161 gtab1 j).f0) := by
  rw [rd_gtab1 j h0 h1, Nat.mul_comm]
  exact (h.out.2 j.toNat (by omega)).1
theorem GTab.at1_1 {w : World} (h : GTab w) (j : Int) (h0 : 0 ≤ j) (h1 : j < 16) : w.cell? ⟨1, j.toNat * 2 + 1, none⟩ = some (.int .u8 (rd_T161 gtab1 j).f1) := by
  rw [rd_gtab1 j h0 h1, Nat.mul_comm]
  exact (h.out.2 j.toNat (by omega)).2
end Go.Proofs.YteapbiiffcchbaaDoor.G
namespace Go.Proofs.YteapbiiffcchbaaDoor.P
open Go.Proofs.YteapbiiffcchbaaDoor.G
open Go.RowKit Go.Proofs.YteapbiiffcchbaaDoorW.PrintWords Go.Proofs.YteapbiiffcchbaaDoorW.PrintLast Go.Proofs.YteapbiiffcchbaaDoorW.PrintMore
attribute [local go_sem] max2_int min2_int max_two min_two max_three min_three max_four min_four
set_option linter.unusedVariables false
set_option linter.unusedSimpArgs false
def utf8_word_byte.f (l0 : List Int) : Option (Int) := if 0 < (l0.length : Int) then (if 1 < (l0.length : Int) then (if 2 < (l0.length : Int) then (if 3 < (l0.length : Int) then (if 4 < (l0.length : Int) then (if 5 < (l0.length : Int) then (if 6 < (l0.length : Int) then (if 7 < (l0.length : Int) then (some (Go.bits .or .u64 (Go.bits .or .u64 (Go.bits .or .u64 (Go.bits .or .u64 (Go.bits .or .u64 (Go.bits .or .u64 (Go.bits .or .u64 (IntKind.u64.wrap (rd l0 0)) (IntKind.u64.wrap ((IntKind.u64.wrap (rd l0 1)) * 256))) (IntKind.u64.wrap ((IntKind.u64.wrap (rd l0 2)) * 65536))) (IntKind.u64.wrap ((IntKind.u64.wrap (rd l0 3)) * 16777216))) (IntKind.u64.wrap ((IntKind.u64.wrap (rd l0 4)) * 4294967296))) (IntKind.u64.wrap ((IntKind.u64.wrap (rd l0 5)) * 1099511627776))) (IntKind.u64.wrap ((IntKind.u64.wrap (rd l0 6)) * 281474976710656))) (IntKind.u64.wrap ((IntKind.u64.wrap (rd l0 7)) * 72057594037927936)))) else (none)) else (none)) else (none)) else (none)) else (none)) else (none)) else (none)) else (none)
set_option maxHeartbeats 8000000 in
set_option maxRecDepth 100000 in
theorem utf8_word_byte.calls (A0 : Option Addr) (c0 : Nat) (l0 : List Int) (r : Int) (w : World) (hr0 : Kd.C (Kd.int .u8) w A0 l0.length l0) (hc0 : l0.length ≤ c0) (h : utf8_word_byte.f l0 = some r) :
  Calls Tryd.prog 149 #[.slice A0 l0.length c0] w fun e w' => e = .returned (.int .u64 r) ∧ Drawn0 w w' := by
 have HR0 := Aside0.mk hr0
 have HC0 := Aside0.mk hc0
 clear hr0 hc0
 have H : (if 0 < (l0.length : Int) then (if 1 < (l0.length : Int) then (if 2 < (l0.length : Int) then (if 3 < (l0.length : Int) then (if 4 < (l0.length : Int) then (if 5 < (l0.length : Int) then (if 6 < (l0.length : Int) then (if 7 < (l0.length : Int) then (some (Go.bits .or .u64 (Go.bits .or .u64 (Go.bits .or .u64 (Go.bits .or .u64 (Go.bits .or .u64 (Go.bits .or .u64 (Go.bits .or .u64 (IntKind.u64.wrap (rd l0 0)) (IntKind.u64.wrap ((IntKind.u64.wrap (rd l0 1)) * 256))) (IntKind.u64.wrap ((IntKind.u64.wrap (rd l0 2)) * 65536))) (IntKind.u64.wrap ((IntKind.u64.wrap (rd l0 3)) * 16777216))) (IntKind.u64.wrap ((IntKind.u64.wrap (rd l0 4)) * 4294967296))) (IntKind.u64.wrap ((IntKind.u64.wrap (rd l0 5)) * 1099511627776))) (IntKind.u64.wrap ((IntKind.u64.wrap (rd l0 6)) * 281474976710656))) (IntKind.u64.wrap ((IntKind.u64.wrap (rd l0 7)) * 72057594037927936)))) else (none)) else (none)) else (none)) else (none)) else (none)) else (none)) else (none)) else (none)) = some r := h
 clear h
 by_cases c2 : 0 < (l0.length : Int)
 ·rw [if_pos c2] at H
  have c2b0 : decide (0 < (l0.length : Int)) = true := decide_eq_true c2
  have c2b1 : decide (0 < l0.length) = true := decide_eq_true (by omega)
  clear c2
  by_cases c3 : 1 < (l0.length : Int)
  ·rw [if_pos c3] at H
   have c3b0 : decide (1 < (l0.length : Int)) = true := decide_eq_true c3
   have c3b1 : decide (1 < l0.length) = true := decide_eq_true (by omega)
   clear c3
   by_cases c4 : 2 < (l0.length : Int)
   ·rw [if_pos c4] at H
    have c4b0 : decide (2 < (l0.length : Int)) = true := decide_eq_true c4
    have c4b1 : decide (2 < l0.length) = true := decide_eq_true (by omega)
    clear c4
    by_cases c5 : 3 < (l0.length : Int)
    ·rw [if_pos c5] at H
     have c5b0 : decide (3 < (l0.length : Int)) = true := decide_eq_true c5
     have c5b1 : decide (3 < l0.length) = true := decide_eq_true (by omega)
     clear c5
     by_cases c6 : 4 < (l0.length : Int)
     ·rw [if_pos c6] at H
      have c6b0 : decide (4 < (l0.length : Int)) = true := decide_eq_true c6
      have c6b1 : decide (4 < l0.length) = true := decide_eq_true (by omega)
      clear c6
      by_cases c7 : 5 < (l0.length : Int)
      ·rw [if_pos c7] at H
       have c7b0 : decide (5 < (l0.length : Int)) = true := decide_eq_true c7
       have c7b1 : decide (5 < l0.length) = true := decide_eq_true (by omega)
       clear c7
       by_cases c8 : 6 < (l0.length : Int)
       ·rw [if_pos c8] at H
        have c8b0 : decide (6 < (l0.length : Int)) = true := decide_eq_true c8
        have c8b1 : decide (6 < l0.length) = true := decide_eq_true (by omega)
        clear c8
        by_cases c9 : 7 < (l0.length : Int)
        ·rw [if_pos c9] at H
         have c9b0 : decide (7 < (l0.length : Int)) = true := decide_eq_true c9
         have c9b1 : decide (7 < l0.length) = true := decide_eq_true (by omega)
         clear c9
         obtain rfl := Option.some.inj H
         have p150001 : 0 ≤ (0 : Int) := (by omega)
         have q150001 : 0 < (l0.length : Int) := odt
         obtain ⟨ad150001, e150001, hx150001_0⟩ := Kd.at_int HR0.out 0 p150001 q150001
         cases e150001
         have qi150001 : (0 < l0.length) = True := eq_true (by omega)
         (try rw [show ((0 : Int)).toNat = 0 from rfl] at hx150001_0)
         (try rw [Addr.add_zero'] at hx150001_0)
         replace p150001 := eq_true p150001
         replace q150001 := eq_true q150001
         have p150002 : 0 ≤ (1 : Int) := (by omega)
         have q150002 : 1 < (l0.length : Int) := odt
         obtain ⟨ad150002, e150002, hx150002_0⟩ := Kd.at_int HR0.out 1 p150002 q150002
         obtain rfl : ad150001 = ad150002 := (by injection e150002)
         (try simp only [show (1 : Int).toNat = 1 from rfl, Nat.reduceMul, Nat.reduceEqDiff, Go.Addr.add, ↓reduceIte] at hx150002_0)
         have qi150002 : (1 < l0.length) = True := eq_true (by omega)
         (try rw [show ((1 : Int)).toNat = 1 from rfl] at hx150002_0)
         replace p150002 := eq_true p150002
         replace q150002 := eq_true q150002
         have p150003 : 0 ≤ (2 : Int) := (by omega)
         have q150003 : 2 < (l0.length : Int) := odt
         obtain ⟨ad150003, e150003, hx150003_0⟩ := Kd.at_int HR0.out 2 p150003 q150003
         obtain rfl : ad150001 = ad150003 := (by injection e150003)
         (try simp only [show (2 : Int).toNat = 2 from rfl, Nat.reduceMul, Nat.reduceEqDiff, Go.Addr.add, ↓reduceIte] at hx150003_0)
         have qi150003 : (2 < l0.length) = True := eq_true (by omega)
         (try rw [show ((2 : Int)).toNat = 2 from rfl] at hx150003_0)
         replace p150003 := eq_true p150003
         replace q150003 := eq_true q150003
         have p150004 : 0 ≤ (3 : Int) := (by omega)
         have q150004 : 3 < (l0.length : Int) := odt
         obtain ⟨ad150004, e150004, hx150004_0⟩ := Kd.at_int HR0.out 3 p150004 q150004
         obtain rfl : ad150001 = ad150004 := (by injection e150004)
         (try simp only [show (3 : Int).toNat = 3 from rfl, Nat.reduceMul, Nat.reduceEqDiff, Go.Addr.add, ↓reduceIte] at hx150004_0)
         have qi150004 : (3 < l0.length) = True := eq_true (by omega)
         (try rw [show ((3 : Int)).toNat = 3 from rfl] at hx150004_0)
         replace p150004 := eq_true p150004
         replace q150004 := eq_true q150004
         have p150005 : 0 ≤ (4 : Int) := (by omega)
         have q150005 : 4 < (l0.length : Int) := odt
         obtain ⟨ad150005, e150005, hx150005_0⟩ := Kd.at_int HR0.out 4 p150005 q150005
         obtain rfl : ad150001 = ad150005 := (by injection e150005)
         (try simp only [show (4 : Int).toNat = 4 from rfl, Nat.reduceMul, Nat.reduceEqDiff, Go.Addr.add, ↓reduceIte] at hx150005_0)
         have qi150005 : (4 < l0.length) = True := eq_true (by omega)
         (try rw [show ((4 : Int)).toNat = 4 from rfl] at hx150005_0)
         replace p150005 := eq_true p150005
         replace q150005 := eq_true q150005
         have p150006 : 0 ≤ (5 : Int) := (by omega)
         have q150006 : 5 < (l0.length : Int) := odt
         obtain ⟨ad150006, e150006, hx150006_0⟩ := Kd.at_int HR0.out 5 p150006 q150006
         obtain rfl : ad150001 = ad150006 := (by injection e150006)
         (try simp only [show (5 : Int).toNat = 5 from rfl, Nat.reduceMul, Nat.reduceEqDiff, Go.Addr.add, ↓reduceIte] at hx150006_0)
         have qi150006 : (5 < l0.length) = True := eq_true (by omega)
         (try rw [show ((5 : Int)).toNat = 5 from rfl] at hx150006_0)
         replace p150006 := eq_true p150006
         replace q150006 := eq_true q150006
         have p150007 : 0 ≤ (6 : Int) := (by omega)
         have q150007 : 6 < (l0.length : Int) := odt
         obtain ⟨ad150007, e150007, hx150007_0⟩ := Kd.at_int HR0.out 6 p150007 q150007
         obtain rfl : ad150001 = ad150007 := (by injection e150007)
         (try simp only [show (6 : Int).toNat = 6 from rfl, Nat.reduceMul, Nat.reduceEqDiff, Go.Addr.add, ↓reduceIte] at hx150007_0)
         have qi150007 : (6 < l0.length) = True := eq_true (by omega)
         (try rw [show ((6 : Int)).toNat = 6 from rfl] at hx150007_0)
         replace p150007 := eq_true p150007
         replace q150007 := eq_true q150007
         have p150008 : 0 ≤ (7 : Int) := (by omega)
         have q150008 : 7 < (l0.length : Int) := odt
         obtain ⟨ad150008, e150008, hx150008_0⟩ := Kd.at_int HR0.out 7 p150008 q150008
         obtain rfl : ad150001 = ad150008 := (by injection e150008)
         (try simp only [show (7 : Int).toNat = 7 from rfl, Nat.reduceMul, Nat.reduceEqDiff, Go.Addr.add, ↓reduceIte] at hx150008_0)
         have qi150008 : (7 < l0.length) = True := eq_true (by omega)
         (try rw [show ((7 : Int)).toNat = 7 from rfl] at hx150008_0)
         replace p150008 := eq_true p150008
         replace q150008 := eq_true q150008
         go_enter Tryd.func149, Tryd.ntmps149
         go_wp2
         repeat (go_quiet (fail); try go_wp2)
         go_ret
         exact ⟨by first | rfl | (simp; done) | (simp [*]; done), by repeat (first | exact Drawn0.refl _ | apply Drawn0.step)⟩
        ·rw [if_neg c9] at H
         exact absurd H (by simp)
       ·rw [if_neg c8] at H
        exact absurd H (by simp)
      ·rw [if_neg c7] at H
       exact absurd H (by simp)
     ·rw [if_neg c6] at H
      exact absurd H (by simp)
    ·rw [if_neg c5] at H
     exact absurd H (by simp)
   ·rw [if_neg c4] at H
    exact absurd H (by simp)
  ·rw [if_neg c3] at H
   exact absurd H (by simp)
 ·rw [if_neg c2] at H
  exact absurd H (by simp)
mutual
def utf8_Valid.l0 : Nat → List Int → Option (Bool)
 | 0, _ => none
 | k + 1, x0 => if (x0.length : Int) > 0 then (if 0 < (x0.length : Int) then (if (rd x0 0) < 128 then (if 1 ≤ (x0.length : Int) then ((some (x0.drop 1 : List Int)).bind fun y128006 => (if (y128006.length : Int) > 8 then ((utf8_word_byte.f y128006).bind fun t128011 => (utf8_Valid.j1 k y128006 ((Go.bits .and .u64 t128011 9259542123273814144) == 0))) else (utf8_Valid.j1 k y128006 false))) else (none)) else (if 0 ≤ (rd x0 0) then (if (rd x0 0) < 256 then (if 0 ≤ ((rd gtab0 (rd x0 0)) / 16) then (if ((rd gtab0 (rd x0 0)) / 16) < 16 then (if (wrap64 (Go.bits .and .u8 (rd gtab0 (rd x0 0)) 7)) = 2 then (if (x0.length : Int) < 2 then (utf8_Valid.j5 k x0 true) else (if 1 < (x0.length : Int) then (if (rd x0 1) < ((rd_T161 gtab1 ((rd gtab0 (rd x0 0)) / 16)).f0) then (utf8_Valid.j5 k x0 true) else (utf8_Valid.j5 k x0 (decide (((rd_T161 gtab1 ((rd gtab0 (rd x0 0)) / 16)).f1) < (rd x0 1))))) else (none))) else (if (wrap64 (Go.bits .and .u8 (rd gtab0 (rd x0 0)) 7)) = 3 then (if (x0.length : Int) < 3 then (utf8_Valid.j6 k x0 true) else (if 1 < (x0.length : Int) then (if (rd x0 1) < ((rd_T161 gtab1 ((rd gtab0 (rd x0 0)) / 16)).f0) then (utf8_Valid.j6 k x0 true) else (if ((rd_T161 gtab1 ((rd gtab0 (rd x0 0)) / 16)).f1) < (rd x0 1) then (utf8_Valid.j6 k x0 true) else (if 2 < (x0.length : Int) then (if (rd x0 2) < 128 then (utf8_Valid.j6 k x0 true) else (utf8_Valid.j6 k x0 (decide (191 < (rd x0 2))))) else (none)))) else (none))) else (if (wrap64 (Go.bits .and .u8 (rd gtab0 (rd x0 0)) 7)) = 4 then (if (x0.length : Int) < 4 then (utf8_Valid.j7 k x0 true) else (if 1 < (x0.length : Int) then (if (rd x0 1) < ((rd_T161 gtab1 ((rd gtab0 (rd x0 0)) / 16)).f0) then (utf8_Valid.j7 k x0 true) else (if ((rd_T161 gtab1 ((rd gtab0 (rd x0 0)) / 16)).f1) < (rd x0 1) then (utf8_Valid.j7 k x0 true) else (if 2 < (x0.length : Int) then (if (rd x0 2) < 128 then (utf8_Valid.j7 k x0 true) else (if 191 < (rd x0 2) then (utf8_Valid.j7 k x0 true) else (if 3 < (x0.length : Int) then (if (rd x0 3) < 128 then (utf8_Valid.j7 k x0 true) else (utf8_Valid.j7 k x0 (decide (191 < (rd x0 3))))) else (none)))) else (none)))) else (none))) else (some false)))) else (none)) else (none)) else (none)) else (none))) else (none)) else (some true)
def utf8_Valid.j1 : Nat → List Int → Bool → Option (Bool)
 | 0, _, _ => none
 | k + 1, x0, x31 => if x31 = true then (if 8 ≤ (x0.length : Int) then ((some (x0.drop 8 : List Int)).bind fun y128012 => (if (y128012.length : Int) > 16 then ((utf8_word_byte.f y128012).bind fun t128017 => (if 8 ≤ (y128012.length : Int) then ((utf8_word_byte.f (y128012.drop 8)).bind fun t128023 => (utf8_Valid.j2 k y128012 ((Go.bits .and .u64 (Go.bits .or .u64 t128017 t128023) 9259542123273814144) == 0))) else (none))) else (utf8_Valid.j2 k y128012 false))) else (none)) else (utf8_Valid.l0 k x0)
def utf8_Valid.j2 : Nat → List Int → Bool → Option (Bool)
 | 0, _, _ => none
 | k + 1, x0, x46 => if x46 = true then (if 16 ≤ (x0.length : Int) then (utf8_Valid.l1 k (x0.drop 16)) else (none)) else (utf8_Valid.l0 k x0)
def utf8_Valid.l1 : Nat → List Int → Option (Bool)
 | 0, _ => none
 | k + 1, x0 => if (x0.length : Int) > 32 then ((utf8_word_byte.f x0).bind fun t128029 => (if 8 ≤ (x0.length : Int) then ((utf8_word_byte.f (x0.drop 8)).bind fun t128035 => (if 16 ≤ (x0.length : Int) then ((utf8_word_byte.f (x0.drop 16)).bind fun t128041 => (if 24 ≤ (x0.length : Int) then ((utf8_word_byte.f (x0.drop 24)).bind fun t128047 => (utf8_Valid.j4 k x0 ((Go.bits .and .u64 (Go.bits .or .u64 (Go.bits .or .u64 t128029 t128035) (Go.bits .or .u64 t128041 t128047)) 9259542123273814144) == 0))) else (none))) else (none))) else (none))) else (utf8_Valid.j4 k x0 false)
def utf8_Valid.j4 : Nat → List Int → Bool → Option (Bool)
 | 0, _, _ => none
 | k + 1, x0, x69 => if x69 = true then (if 32 ≤ (x0.length : Int) then (utf8_Valid.l1 k (x0.drop 32)) else (none)) else (utf8_Valid.l0 k x0)
def utf8_Valid.j5 : Nat → List Int → Bool → Option (Bool)
 | 0, _, _ => none
 | k + 1, x0, x103 => if x103 = true then (some false) else (if 2 ≤ (x0.length : Int) then (utf8_Valid.l0 k (x0.drop 2)) else (none))
def utf8_Valid.j6 : Nat → List Int → Bool → Option (Bool)
 | 0, _, _ => none
 | k + 1, x0, x138 => if x138 = true then (some false) else (if 3 ≤ (x0.length : Int) then (utf8_Valid.l0 k (x0.drop 3)) else (none))
def utf8_Valid.j7 : Nat → List Int → Bool → Option (Bool)
 | 0, _, _ => none
 | k + 1, x0, x185 => if x185 = true then (some false) else (if 4 ≤ (x0.length : Int) then (utf8_Valid.l0 k (x0.drop 4)) else (none))
end
def utf8_Valid.f (k : Nat) (l0 : List Int) : Option (Bool) := if (l0.length : Int) ≤ (l0.length : Int) then (utf8_Valid.l0 k (l0.take ((l0.length : Int) : Int).toNat)) else (none)
set_option maxHeartbeats 8000000 in
set_option maxRecDepth 100000 in
theorem utf8_Valid.calls (k : Nat) (P0_ : Nat → Prop) (A0 : Option Addr) (c0 : Nat) (l0 : List Int) (r : Bool) (w : World) (hs0 : Kd.V (Kd.int .u8) 5 w w.heap.size (fun k_ => P0_ k_) (.slice A0 l0.length c0) l0) (hG : GTab w) (h : utf8_Valid.f k l0 = some r) :
  Calls Tryd.prog 127 #[.slice A0 l0.length c0] w fun e w' => e = .returned (.bool r) ∧ Below w.heap.size w w' := by
 have hu161 := Tryd.underlying161
 have HO0 := Aside0.mk (show Kd.V (Kd.int .u8) 5 w w.heap.size (fun k_ => (P0_ k_ ∨ w.heap.size ≤ k_)) (.slice A0 l0.length c0) l0 from Kd.V_mono hs0 (fun k_ hk => .inl hk))
 have HB := Aside0.mk (Below.refl w.heap.size w)
 have H : (if (l0.length : Int) ≤ (l0.length : Int) then (utf8_Valid.l0 k (l0.take ((l0.length : Int) : Int).toNat)) else (none)) = some r := h
 clear h
 by_cases c2 : (l0.length : Int) ≤ (l0.length : Int)
 ·rw [if_pos c2] at H
  have c2b0 := eq_true c2
  have c2b1 : decide ((l0.length : Int) ≤ (l0.length : Int)) = true := decide_eq_true c2
  clear c2
  obtain ⟨y128001, hy128001⟩ : ∃ y_ : List Int, y_ = (l0.take ((l0.length : Int) : Int).toNat) := ⟨_, rfl⟩
  replace H : (utf8_Valid.l0 k y128001) = some r := repH hy128001 H
  have Ny128001 := Aside0.mk hy128001
  clear hy128001
  have H' := Aside0.mk H
  clear H
  have q3 : ((l0.length : Int) : Int) ≤ ((l0.length : Int) : Int) := odt
  obtain ⟨i03, hi03, _, hsz3, _⟩ := info_parts info5
  have hroom3 : l0.length ≤ c0 := (Kd.V_reads' HO0.out).2.1
  have hC3 : Kd.F (Kd.int .u8) _ _ A0 l0.length l0 := (Kd.V_at (base := w.heap.size) HO0.out).2.2
  have hcut3 := cut_to_cap (P := Tryd.prog) 22 5 .i64 Tryd.underlying22 hi03 A0 l0.length c0 (l0.length : Int) (by omega) q3 hroom3
  have hr3 := Kd.F_take (m := ((l0.length : Int) : Int).toNat) hC3 (by omega)
  have hy3 : y128001.length = ((l0.length : Int) : Int).toNat := (by rw [Ny128001.out, List.length_take]; omega)
  rw [← Ny128001.out] at hr3
  rw [← hy3] at hcut3
  have HO128004 := Aside0.mk (show Kd.V (Kd.int .u8) 5 _ w.heap.size _ (.slice A0 y128001.length y128001.length) y128001 from Kd.V_mk (by omega) hr3)
  have HC128004 := Aside0.mk (show y128001.length ≤ y128001.length from by omega)
  clear hr3 hC3 hroom3 hi03 hsz3
  have KY3 := Aside0.mk hy3
  clear hy3
  replace q3 := eq_true q3
  go_enter Tryd.func127, Tryd.ntmps127
  go_wp2
  repeat (go_quiet (fail); try go_wp2)
  go_loopg [0] k (fun kq v0 w' => ∃ (x0_1 : List Int), Aside0 (utf8_Valid.l0 kq x0_1 = some r) ∧ Aside0 (kq ≤ k) ∧ Aside0 (Kd.V (Kd.int .u8) 5 w' w.heap.size (fun k_ => (P0_ k_ ∨ w.heap.size ≤ k_)) v0 x0_1) ∧ Aside0 (Below w.heap.size w w'))
  case atStart => exact ⟨(y128001), H', ⟨Nat.le_refl _⟩, ⟨(hrnV HO128004)⟩, ⟨hbw⟩⟩
  case round =>
   clear H'
   try clear c1
   try clear c2
   try clear c2b0
   try clear c2b1
   try clear p2
   try clear q3
   try clear q3
   obtain ⟨x0_1, HA, HK1, HO_0, HB⟩ := hrel
   cases gk with
   | zero => exact absurd HA.out (by simp [utf8_Valid.l0])
   | succ k1 =>
    have H := HA.out
    clear HA
    simp only [utf8_Valid.l0] at H
    by_cases c4 : (x0_1.length : Int) > 0
    ·rw [if_pos c4] at H
     have c4b0 : decide (0 < (x0_1.length : Int)) = true := decide_eq_true c4
     have c4b1 : decide (0 < x0_1.length) = true := decide_eq_true (by omega)
     clear c4
     by_cases c5 : 0 < (x0_1.length : Int)
     ·rw [if_pos c5] at H
      have c5b0 : decide (0 < (x0_1.length : Int)) = true := decide_eq_true c5
      have c5b1 : decide (0 < x0_1.length) = true := decide_eq_true (by omega)
      clear c5
      by_cases c6 : (rd x0_1 0) < 128
      ·rw [if_pos c6] at H
       have c6b0 : decide ((rd x0_1 0) < 128) = true := decide_eq_true c6
       clear c6
       by_cases c7 : 1 ≤ (x0_1.length : Int)
       ·rw [if_pos c7] at H
        have c7b0 := eq_true c7
        have c7b1 : decide (1 ≤ (x0_1.length : Int)) = true := decide_eq_true c7
        clear c7
        obtain ⟨y128006, hy128006⟩ : ∃ y_ : List Int, y_ = (x0_1.drop 1) := ⟨_, rfl⟩
        replace H : (if (y128006.length : Int) > 8 then ((utf8_word_byte.f y128006).bind fun t128011 => (utf8_Valid.j1 k1 y128006 ((Go.bits .and .u64 t128011 9259542123273814144) == 0))) else (utf8_Valid.j1 k1 y128006 false)) = some r := repH hy128006 H
        have Ny128006 := Aside0.mk hy128006
        clear hy128006
        have HC8 := Aside0.mk H
        clear H
        obtain ⟨Ao9, co9, eo9⟩ := Kd.V_slice HO_0.out
        subst eo9
        have p128005 : 0 ≤ (0 : Int) := (by omega)
        have q128005 : 0 < (x0_1.length : Int) := odt
        obtain ⟨ad128005, e128005, hx128005_0⟩ := Kd.at_int (Kd.V_reads' HO_0.out).2.2 0 p128005 q128005
        cases e128005
        have qi128005 : (0 < x0_1.length) = True := eq_true (by omega)
        (try rw [show ((0 : Int)).toNat = 0 from rfl] at hx128005_0)
        (try rw [Addr.add_zero'] at hx128005_0)
        replace p128005 := eq_true p128005
        replace q128005 := eq_true q128005
        have q10 : (1 : Int) ≤ ((x0_1.length : Int) : Int) := odt
        obtain ⟨i010, hi010, _, hsz10, _⟩ := info_parts info5
        have hroom10 : x0_1.length ≤ co9 := (Kd.V_reads' HO_0.out).2.1
        have hC10 : Kd.F (Kd.int .u8) _ _ (some ad128005) x0_1.length x0_1 := (Kd.V_at (base := w.heap.size) HO_0.out).2.2
        have hcut10 := cut_from (P := Tryd.prog) 22 5 .i64 Tryd.underlying22 hi010 1 hsz10 (some ad128005) x0_1.length co9 1 (by omega) q10
        have hr10 := Kd.F_cut (m := (1 : Int).toNat) (c := co9) hC10 (by omega) hroom10
        obtain ⟨A10, hA10⟩ : ∃ A1_, A1_ = (if co9 = (1 : Int).toNat then (some ad128005) else ((some ad128005) : Option Addr).map (·.add ((1 : Int).toNat * 1))) := ⟨_, rfl⟩
        obtain ⟨c10, hc10⟩ : ∃ c1_, c1_ = co9 - (1 : Int).toNat := ⟨_, rfl⟩
        have hy10 : y128006.length = x0_1.length - (1 : Int).toNat := (by rw [Ny128006.out, List.length_drop] <;> omega)
        rw [show (x0_1).drop (1 : Int).toNat = y128006 from Ny128006.out.symm] at hr10
        replace hr10 : Kd.F (Kd.int .u8) _ _ A10 y128006.length y128006 := (by rw [hA10]; exact hr10)
        rw [← hy10, ← hA10, ← hc10] at hcut10
        have HO128010 := Aside0.mk (show Kd.V (Kd.int .u8) 5 _ w.heap.size _ (.slice A10 y128006.length c10) y128006 from Kd.V_mk (by rw [hy10, hc10]; exact Nat.sub_le_sub_right hroom10 _) hr10)
        have HC128010 := Aside0.mk (show y128006.length ≤ c10 from by rw [hy10, hc10]; exact Nat.sub_le_sub_right hroom10 _)
        clear hr10 hC10 hroom10 hi010 hsz10 hc10
        have KY10 := Aside0.mk hy10
        have KA10 := Aside0.mk hA10
        clear hy10 hA10
        replace q10 := eq_true q10
        go_upto_region 6 with (fail)
        repeat (go_quiet (fail); go_upto_region 6 with (fail))
        go_cut [31] (fun v31 wc => ∃ (kq : Nat) (x31_7 : Bool), v31 = .bool x31_7 ∧ Aside0 (utf8_Valid.j1 kq y128006 x31_7 = some r) ∧ Aside0 (kq ≤ k1) ∧ Aside0 (Kd.V (Kd.int .u8) 5 wc w.heap.size (fun k_ => (P0_ k_ ∨ w.heap.size ≤ k_)) (.slice A10 y128006.length c10) y128006) ∧ Aside0 (Below w.heap.size w wc))
        case first =>
         have H := HC8.out
         clear HC8
         by_cases c11 : (y128006.length : Int) > 8
         ·as_aux_lemma =>
          rw [if_pos c11] at H
          have c11b0 : decide (8 < (y128006.length : Int)) = true := decide_eq_true c11
          have c11b1 : decide (8 < y128006.length) = true := decide_eq_true (by omega)
          clear c11
          (first | rw [c11b0] | (simp only [i64_w, i32_w]; rw [c11b0]) | skip)
          replace H := Option.bind_eq_some_iff.mp H
          obtain ⟨t128011, A120, H⟩ := H
          replace H : (utf8_Valid.j1 k1 y128006 ((Go.bits .and .u64 t128011 9259542123273814144) == 0)) = some r := H
          have A12 := Aside0.mk A120
          clear A120
          have H' := Aside0.mk H
          clear H
          go_wp2_with (first | (go_at_call 149; (with_reducible refine (utf8_word_byte.calls _ _ y128006 t128011 _ ?side1 ?side2 A12.out).mono ?_); (case side1 => exact cpl (Kd.V_reads' HO128010.out).2.2); (case side2 => exact (Kd.V_reads' HO128010.out).2.1); rintro e w' ⟨rfl, ⟨nd, rfl⟩⟩; (try first | exact ⟨rfl, _, World.drewN_drewN _ _ _⟩ | exact ⟨rfl, _, Eq.trans (World.drewN_drewN _ _ _) (congrArg (World.drewN _) (Nat.add_assoc _ _ _))⟩)))
          repeat (go_quiet (first | (go_at_call 149; (with_reducible refine (utf8_word_byte.calls _ _ y128006 t128011 _ ?side1 ?side2 A12.out).mono ?_); (case side1 => exact cpl (Kd.V_reads' HO128010.out).2.2); (case side2 => exact (Kd.V_reads' HO128010.out).2.1); rintro e w' ⟨rfl, ⟨nd, rfl⟩⟩; (try first | exact ⟨rfl, _, World.drewN_drewN _ _ _⟩ | exact ⟨rfl, _, Eq.trans (World.drewN_drewN _ _ _) (congrArg (World.drewN _) (Nat.add_assoc _ _ _))⟩))); try go_wp2_with (first | (go_at_call 149; (with_reducible refine (utf8_word_byte.calls _ _ y128006 t128011 _ ?side1 ?side2 A12.out).mono ?_); (case side1 => exact cpl (Kd.V_reads' HO128010.out).2.2); (case side2 => exact (Kd.V_reads' HO128010.out).2.1); rintro e w' ⟨rfl, ⟨nd, rfl⟩⟩; (try first | exact ⟨rfl, _, World.drewN_drewN _ _ _⟩ | exact ⟨rfl, _, Eq.trans (World.drewN_drewN _ _ _) (congrArg (World.drewN _) (Nat.add_assoc _ _ _))⟩))))
          go_meet
          case rel => exact ⟨_, (((Go.bits .and .u64 t128011 9259542123273814144) == 0)), rfs, H', ⟨by have := HK1.out; first | omega | exact Nat.le_refl _⟩, ⟨(hrnV HO128010)⟩, ⟨hbw⟩⟩
         ·as_aux_lemma =>
          rw [if_neg c11] at H
          have c11b0 : decide (8 < (y128006.length : Int)) = false := decide_eq_false c11
          have c11b1 : decide (8 < y128006.length) = false := decide_eq_false (by omega)
          clear c11
          (first | rw [c11b0] | (simp only [i64_w, i32_w]; rw [c11b0]) | skip)
          have H' := Aside0.mk H
          clear H
          go_wp2
          repeat (go_quiet (fail); try go_wp2)
          go_meet
          case rel => exact ⟨_, (false), rfs, H', ⟨by have := HK1.out; first | omega | exact Nat.le_refl _⟩, ⟨(hrnV HO128010)⟩, ⟨hbw⟩⟩
        case rest =>
         clear HC8
         try clear c1
         try clear p1
         try clear q1
         try clear hx1
         try clear qi1
         try clear c2
         try clear c2b0
         try clear c2b1
         try clear p2
         try clear q3
         try clear c4
         try clear c4b0
         try clear c4b1
         try clear c5
         try clear c5b0
         try clear c5b1
         try clear c6
         try clear c6b0
         try clear c7
         try clear c7b0
         try clear c7b1
         try clear c10
         try clear q10
         try clear c11
         try clear c11b0
         try clear c11b1
         try clear c12
         try clear p12
         try clear q12
         try clear hx12
         try clear qi12
         try clear hx128005_0
         try clear p128005
         try clear p2
         try clear q10
         try clear q128005
         try clear q3
         obtain ⟨kq, x31_7, rfl, HA, HJ7, HO_0, HB⟩ := hcut
         cases kq with
         | zero => exact absurd HA.out (by simp [utf8_Valid.j1])
         | succ kj7 =>
          have H := HA.out
          clear HA
          simp only [utf8_Valid.j1] at H
          by_cases c13 : x31_7 = true
          ·subst c13
           have H1 : (if 8 ≤ (y128006.length : Int) then ((some (y128006.drop 8 : List Int)).bind fun y128012 => (if (y128012.length : Int) > 16 then ((utf8_word_byte.f y128012).bind fun t128017 => (if 8 ≤ (y128012.length : Int) then ((utf8_word_byte.f (y128012.drop 8)).bind fun t128023 => (utf8_Valid.j2 kj7 y128012 ((Go.bits .and .u64 (Go.bits .or .u64 t128017 t128023) 9259542123273814144) == 0))) else (none))) else (utf8_Valid.j2 kj7 y128012 false))) else (none)) = some r := by rw [if_pos rfl] at H; exact H
           clear H
           have H := H1
           clear H1
           by_cases c14 : 8 ≤ (y128006.length : Int)
           ·rw [if_pos c14] at H
            have c14b0 := eq_true c14
            have c14b1 : decide (8 ≤ (y128006.length : Int)) = true := decide_eq_true c14
            clear c14
            obtain ⟨y128012, hy128012⟩ : ∃ y_ : List Int, y_ = (y128006.drop 8) := ⟨_, rfl⟩
            replace H : (if (y128012.length : Int) > 16 then ((utf8_word_byte.f y128012).bind fun t128017 => (if 8 ≤ (y128012.length : Int) then ((utf8_word_byte.f (y128012.drop 8)).bind fun t128023 => (utf8_Valid.j2 kj7 y128012 ((Go.bits .and .u64 (Go.bits .or .u64 t128017 t128023) 9259542123273814144) == 0))) else (none))) else (utf8_Valid.j2 kj7 y128012 false)) = some r := repH hy128012 H
            have Ny128012 := Aside0.mk hy128012
            clear hy128012
            have HC15 := Aside0.mk H
            clear H
            have q16 : (8 : Int) ≤ ((y128006.length : Int) : Int) := odt
            obtain ⟨i016, hi016, _, hsz16, _⟩ := info_parts info5
            have hroom16 : y128006.length ≤ c10 := (Kd.V_reads' HO_0.out).2.1
            have hC16 : Kd.F (Kd.int .u8) _ _ A10 y128006.length y128006 := (Kd.V_at (base := w.heap.size) HO_0.out).2.2
            have hcut16 := cut_from (P := Tryd.prog) 22 5 .i64 Tryd.underlying22 hi016 1 hsz16 A10 y128006.length c10 8 (by omega) q16
            have hr16 := Kd.F_cut (m := (8 : Int).toNat) (c := c10) hC16 (by omega) hroom16
            obtain ⟨A16, hA16⟩ : ∃ A1_, A1_ = (if c10 = (8 : Int).toNat then A10 else (A10 : Option Addr).map (·.add ((8 : Int).toNat * 1))) := ⟨_, rfl⟩
            obtain ⟨c16, hc16⟩ : ∃ c1_, c1_ = c10 - (8 : Int).toNat := ⟨_, rfl⟩
            have hy16 : y128012.length = y128006.length - (8 : Int).toNat := (by rw [Ny128012.out, List.length_drop] <;> omega)
            rw [show (y128006).drop (8 : Int).toNat = y128012 from Ny128012.out.symm] at hr16
            replace hr16 : Kd.F (Kd.int .u8) _ _ A16 y128012.length y128012 := (by rw [hA16]; exact hr16)
            rw [← hy16, ← hA16, ← hc16] at hcut16
            have HO128016 := Aside0.mk (show Kd.V (Kd.int .u8) 5 _ w.heap.size _ (.slice A16 y128012.length c16) y128012 from Kd.V_mk (by rw [hy16, hc16]; exact Nat.sub_le_sub_right hroom16 _) hr16)
            have HC128016 := Aside0.mk (show y128012.length ≤ c16 from by rw [hy16, hc16]; exact Nat.sub_le_sub_right hroom16 _)
            clear hr16 hC16 hroom16 hi016 hsz16 hc16
            have KY16 := Aside0.mk hy16
            have KA16 := Aside0.mk hA16
            clear hy16 hA16
            replace q16 := eq_true q16
            go_upto_region 8 with (fail)
            repeat (go_quiet (fail); go_upto_region 8 with (fail))
            go_cut [46] (fun v46 wc => ∃ (kq : Nat) (x46_14 : Bool), v46 = .bool x46_14 ∧ Aside0 (utf8_Valid.j2 kq y128012 x46_14 = some r) ∧ Aside0 (kq ≤ kj7) ∧ Aside0 (Kd.V (Kd.int .u8) 5 wc w.heap.size (fun k_ => (P0_ k_ ∨ w.heap.size ≤ k_)) (.slice A16 y128012.length c16) y128012) ∧ Aside0 (Below w.heap.size w wc))
            case first =>
             have H := HC15.out
             clear HC15
             by_cases c17 : (y128012.length : Int) > 16
             ·as_aux_lemma =>
              rw [if_pos c17] at H
              have c17b0 : decide (16 < (y128012.length : Int)) = true := decide_eq_true c17
              have c17b1 : decide (16 < y128012.length) = true := decide_eq_true (by omega)
              clear c17
              (first | rw [c17b0] | (simp only [i64_w, i32_w]; rw [c17b0]) | skip)
              replace H := Option.bind_eq_some_iff.mp H
              obtain ⟨t128017, A180, H⟩ := H
              replace H : (if 8 ≤ (y128012.length : Int) then ((utf8_word_byte.f (y128012.drop 8)).bind fun t128023 => (utf8_Valid.j2 kj7 y128012 ((Go.bits .and .u64 (Go.bits .or .u64 t128017 t128023) 9259542123273814144) == 0))) else (none)) = some r := H
              have A18 := Aside0.mk A180
              clear A180
              by_cases c19 : 8 ≤ (y128012.length : Int)
              ·rw [if_pos c19] at H
               have c19b0 := eq_true c19
               have c19b1 : decide (8 ≤ (y128012.length : Int)) = true := decide_eq_true c19
               clear c19
               obtain ⟨y128018, hy128018⟩ : ∃ y_ : List Int, y_ = (y128012.drop 8) := ⟨_, rfl⟩
               replace H : ((utf8_word_byte.f y128018).bind fun t128023 => (utf8_Valid.j2 kj7 y128012 ((Go.bits .and .u64 (Go.bits .or .u64 t128017 t128023) 9259542123273814144) == 0))) = some r := repH hy128018 H
               have Ny128018 := Aside0.mk hy128018
               clear hy128018
               replace H := Option.bind_eq_some_iff.mp H
               obtain ⟨t128023, A200, H⟩ := H
               replace H : (utf8_Valid.j2 kj7 y128012 ((Go.bits .and .u64 (Go.bits .or .u64 t128017 t128023) 9259542123273814144) == 0)) = some r := H
               have A20 := Aside0.mk A200
               clear A200
               have H' := Aside0.mk H
               clear H
               go_wp2_with (first | (go_at_call 149; (with_reducible refine (utf8_word_byte.calls _ _ y128012 t128017 _ ?side1 ?side2 A18.out).mono ?_); (case side1 => exact cpl (Kd.V_reads' HO128016.out).2.2); (case side2 => exact (Kd.V_reads' HO128016.out).2.1); rintro e w' ⟨rfl, ⟨nd, rfl⟩⟩; (try first | exact ⟨rfl, _, World.drewN_drewN _ _ _⟩ | exact ⟨rfl, _, Eq.trans (World.drewN_drewN _ _ _) (congrArg (World.drewN _) (Nat.add_assoc _ _ _))⟩); have q21 : (8 : Int) ≤ ((y128012.length : Int) : Int) := odt; obtain ⟨i021, hi021, _, hsz21, _⟩ := info_parts info5; have hroom21 : y128012.length ≤ c16 := (Kd.V_reads' HO128016.out).2.1; have hC21 : Kd.F (Kd.int .u8) _ _ A16 y128012.length y128012 := (Kd.V_at (base := w.heap.size) HO128016.out).2.2; have hcut21 := cut_from (P := Tryd.prog) 22 5 .i64 Tryd.underlying22 hi021 1 hsz21 A16 y128012.length c16 8 (by omega) q21; have hr21 := Kd.F_cut (m := (8 : Int).toNat) (c := c16) hC21 (by omega) hroom21; obtain ⟨A21, hA21⟩ : ∃ A1_, A1_ = (if c16 = (8 : Int).toNat then A16 else (A16 : Option Addr).map (·.add ((8 : Int).toNat * 1))) := ⟨_, rfl⟩; obtain ⟨c21, hc21⟩ : ∃ c1_, c1_ = c16 - (8 : Int).toNat := ⟨_, rfl⟩; have hy21 : y128018.length = y128012.length - (8 : Int).toNat := (by rw [Ny128018.out, List.length_drop] <;> omega); rw [show (y128012).drop (8 : Int).toNat = y128018 from Ny128018.out.symm] at hr21; replace hr21 : Kd.F (Kd.int .u8) _ _ A21 y128018.length y128018 := (by rw [hA21]; exact hr21); rw [← hy21, ← hA21, ← hc21] at hcut21; have HO128022 := Aside0.mk (show Kd.V (Kd.int .u8) 5 _ w.heap.size _ (.slice A21 y128018.length c21) y128018 from Kd.V_mk (by rw [hy21, hc21]; exact Nat.sub_le_sub_right hroom21 _) hr21); have HC128022 := Aside0.mk (show y128018.length ≤ c21 from by rw [hy21, hc21]; exact Nat.sub_le_sub_right hroom21 _); clear hr21 hC21 hroom21 hi021 hsz21 hc21; have KY21 := Aside0.mk hy21; have KA21 := Aside0.mk hA21; clear hy21 hA21; replace q21 := eq_true q21) | (go_at_call 149; (with_reducible refine (utf8_word_byte.calls _ _ y128018 t128023 _ ?side1 ?side2 A20.out).mono ?_); (case side1 => exact cpl (Kd.V_reads' HO128022.out).2.2); (case side2 => exact (Kd.V_reads' HO128022.out).2.1); rintro e w' ⟨rfl, ⟨nd, rfl⟩⟩; (try first | exact ⟨rfl, _, World.drewN_drewN _ _ _⟩ | exact ⟨rfl, _, Eq.trans (World.drewN_drewN _ _ _) (congrArg (World.drewN _) (Nat.add_assoc _ _ _))⟩)))
               repeat (go_quiet (first | (go_at_call 149; (with_reducible refine (utf8_word_byte.calls _ _ y128012 t128017 _ ?side1 ?side2 A18.out).mono ?_); (case side1 => exact cpl (Kd.V_reads' HO128016.out).2.2); (case side2 => exact (Kd.V_reads' HO128016.out).2.1); rintro e w' ⟨rfl, ⟨nd, rfl⟩⟩; (try first | exact ⟨rfl, _, World.drewN_drewN _ _ _⟩ | exact ⟨rfl, _, Eq.trans (World.drewN_drewN _ _ _) (congrArg (World.drewN _) (Nat.add_assoc _ _ _))⟩); have q21 : (8 : Int) ≤ ((y128012.length : Int) : Int) := odt; obtain ⟨i021, hi021, _, hsz21, _⟩ := info_parts info5; have hroom21 : y128012.length ≤ c16 := (Kd.V_reads' HO128016.out).2.1; have hC21 : Kd.F (Kd.int .u8) _ _ A16 y128012.length y128012 := (Kd.V_at (base := w.heap.size) HO128016.out).2.2; have hcut21 := cut_from (P := Tryd.prog) 22 5 .i64 Tryd.underlying22 hi021 1 hsz21 A16 y128012.length c16 8 (by omega) q21; have hr21 := Kd.F_cut (m := (8 : Int).toNat) (c := c16) hC21 (by omega) hroom21; obtain ⟨A21, hA21⟩ : ∃ A1_, A1_ = (if c16 = (8 : Int).toNat then A16 else (A16 : Option Addr).map (·.add ((8 : Int).toNat * 1))) := ⟨_, rfl⟩; obtain ⟨c21, hc21⟩ : ∃ c1_, c1_ = c16 - (8 : Int).toNat := ⟨_, rfl⟩; have hy21 : y128018.length = y128012.length - (8 : Int).toNat := (by rw [Ny128018.out, List.length_drop] <;> omega); rw [show (y128012).drop (8 : Int).toNat = y128018 from Ny128018.out.symm] at hr21; replace hr21 : Kd.F (Kd.int .u8) _ _ A21 y128018.length y128018 := (by rw [hA21]; exact hr21); rw [← hy21, ← hA21, ← hc21] at hcut21; have HO128022 := Aside0.mk (show Kd.V (Kd.int .u8) 5 _ w.heap.size _ (.slice A21 y128018.length c21) y128018 from Kd.V_mk (by rw [hy21, hc21]; exact Nat.sub_le_sub_right hroom21 _) hr21); have HC128022 := Aside0.mk (show y128018.length ≤ c21 from by rw [hy21, hc21]; exact Nat.sub_le_sub_right hroom21 _); clear hr21 hC21 hroom21 hi021 hsz21 hc21; have KY21 := Aside0.mk hy21; have KA21 := Aside0.mk hA21; clear hy21 hA21; replace q21 := eq_true q21) | (go_at_call 149; (with_reducible refine (utf8_word_byte.calls _ _ y128018 t128023 _ ?side1 ?side2 A20.out).mono ?_); (case side1 => exact cpl (Kd.V_reads' HO128022.out).2.2); (case side2 => exact (Kd.V_reads' HO128022.out).2.1); rintro e w' ⟨rfl, ⟨nd, rfl⟩⟩; (try first | exact ⟨rfl, _, World.drewN_drewN _ _ _⟩ | exact ⟨rfl, _, Eq.trans (World.drewN_drewN _ _ _) (congrArg (World.drewN _) (Nat.add_assoc _ _ _))⟩))); try go_wp2_with (first | (go_at_call 149; (with_reducible refine (utf8_word_byte.calls _ _ y128012 t128017 _ ?side1 ?side2 A18.out).mono ?_); (case side1 => exact cpl (Kd.V_reads' HO128016.out).2.2); (case side2 => exact (Kd.V_reads' HO128016.out).2.1); rintro e w' ⟨rfl, ⟨nd, rfl⟩⟩; (try first | exact ⟨rfl, _, World.drewN_drewN _ _ _⟩ | exact ⟨rfl, _, Eq.trans (World.drewN_drewN _ _ _) (congrArg (World.drewN _) (Nat.add_assoc _ _ _))⟩); have q21 : (8 : Int) ≤ ((y128012.length : Int) : Int) := odt; obtain ⟨i021, hi021, _, hsz21, _⟩ := info_parts info5; have hroom21 : y128012.length ≤ c16 := (Kd.V_reads' HO128016.out).2.1; have hC21 : Kd.F (Kd.int .u8) _ _ A16 y128012.length y128012 := (Kd.V_at (base := w.heap.size) HO128016.out).2.2; have hcut21 := cut_from (P := Tryd.prog) 22 5 .i64 Tryd.underlying22 hi021 1 hsz21 A16 y128012.length c16 8 (by omega) q21; have hr21 := Kd.F_cut (m := (8 : Int).toNat) (c := c16) hC21 (by omega) hroom21; obtain ⟨A21, hA21⟩ : ∃ A1_, A1_ = (if c16 = (8 : Int).toNat then A16 else (A16 : Option Addr).map (·.add ((8 : Int).toNat * 1))) := ⟨_, rfl⟩; obtain ⟨c21, hc21⟩ : ∃ c1_, c1_ = c16 - (8 : Int).toNat := ⟨_, rfl⟩; have hy21 : y128018.length = y128012.length - (8 : Int).toNat := (by rw [Ny128018.out, List.length_drop] <;> omega); rw [show (y128012).drop (8 : Int).toNat = y128018 from Ny128018.out.symm] at hr21; replace hr21 : Kd.F (Kd.int .u8) _ _ A21 y128018.length y128018 := (by rw [hA21]; exact hr21); rw [← hy21, ← hA21, ← hc21] at hcut21; have HO128022 := Aside0.mk (show Kd.V (Kd.int .u8) 5 _ w.heap.size _ (.slice A21 y128018.length c21) y128018 from Kd.V_mk (by rw [hy21, hc21]; exact Nat.sub_le_sub_right hroom21 _) hr21); have HC128022 := Aside0.mk (show y128018.length ≤ c21 from by rw [hy21, hc21]; exact Nat.sub_le_sub_right hroom21 _); clear hr21 hC21 hroom21 hi021 hsz21 hc21; have KY21 := Aside0.mk hy21; have KA21 := Aside0.mk hA21; clear hy21 hA21; replace q21 := eq_true q21) | (go_at_call 149; (with_reducible refine (utf8_word_byte.calls _ _ y128018 t128023 _ ?side1 ?side2 A20.out).mono ?_); (case side1 => exact cpl (Kd.V_reads' HO128022.out).2.2); (case side2 => exact (Kd.V_reads' HO128022.out).2.1); rintro e w' ⟨rfl, ⟨nd, rfl⟩⟩; (try first | exact ⟨rfl, _, World.drewN_drewN _ _ _⟩ | exact ⟨rfl, _, Eq.trans (World.drewN_drewN _ _ _) (congrArg (World.drewN _) (Nat.add_assoc _ _ _))⟩))))
               go_meet
               case rel => exact ⟨_, (((Go.bits .and .u64 (Go.bits .or .u64 t128017 t128023) 9259542123273814144) == 0)), rfs, H', ⟨by have := HK1.out; have := HJ7.out; first | omega | exact Nat.le_refl _⟩, ⟨(hrnV HO128016)⟩, ⟨hbw⟩⟩
              ·rw [if_neg c19] at H
               exact absurd H (by simp)
             ·as_aux_lemma =>
              rw [if_neg c17] at H
              have c17b0 : decide (16 < (y128012.length : Int)) = false := decide_eq_false c17
              have c17b1 : decide (16 < y128012.length) = false := decide_eq_false (by omega)
              clear c17
              (first | rw [c17b0] | (simp only [i64_w, i32_w]; rw [c17b0]) | skip)
              have H' := Aside0.mk H
              clear H
              go_wp2
              repeat (go_quiet (fail); try go_wp2)
              go_meet
              case rel => exact ⟨_, (false), rfs, H', ⟨by have := HK1.out; have := HJ7.out; first | omega | exact Nat.le_refl _⟩, ⟨(hrnV HO128016)⟩, ⟨hbw⟩⟩
            case rest =>
             clear HC15
             try clear c1
             try clear p1
             try clear q1
             try clear hx1
             try clear qi1
             try clear c2
             try clear c2b0
             try clear c2b1
             try clear p2
             try clear q2
             try clear q3
             try clear c4
             try clear c4b0
             try clear c4b1
             try clear c5
             try clear c5b0
             try clear c5b1
             try clear c6
             try clear c6b0
             try clear c7
             try clear c7b0
             try clear c7b1
             try clear c10
             try clear q10
             try clear c11
             try clear c11b0
             try clear c11b1
             try clear c12
             try clear p12
             try clear q12
             try clear hx12
             try clear qi12
             try clear c13
             try clear c14
             try clear c14b0
             try clear c14b1
             try clear c16
             try clear q16
             try clear c17
             try clear c17b0
             try clear c17b1
             try clear c19
             try clear c19b0
             try clear c19b1
             try clear c21
             try clear q21
             try clear hx128005_0
             try clear p1
             try clear p12
             try clear p128005
             try clear p2
             try clear q1
             try clear q10
             try clear q12
             try clear q128005
             try clear q16
             try clear q21
             try clear q3
             obtain ⟨kq, x46_14, rfl, HA, HJ14, HO_0, HB⟩ := hcut
             cases kq with
             | zero => exact absurd HA.out (by simp [utf8_Valid.j2])
             | succ kj14 =>
              have H := HA.out
              clear HA
              simp only [utf8_Valid.j2] at H
              by_cases c22 : x46_14 = true
              ·subst c22
               have H1 : (if 16 ≤ (y128012.length : Int) then (utf8_Valid.l1 kj14 (y128012.drop 16)) else (none)) = some r := by rw [if_pos rfl] at H; exact H
               clear H
               have H := H1
               clear H1
               by_cases c23 : 16 ≤ (y128012.length : Int)
               ·rw [if_pos c23] at H
                have c23b0 := eq_true c23
                have c23b1 : decide (16 ≤ (y128012.length : Int)) = true := decide_eq_true c23
                clear c23
                obtain ⟨y128024, hy128024⟩ : ∃ y_ : List Int, y_ = (y128012.drop 16) := ⟨_, rfl⟩
                replace H : (utf8_Valid.l1 kj14 y128024) = some r := repH hy128024 H
                have Ny128024 := Aside0.mk hy128024
                clear hy128024
                have H' := Aside0.mk H
                clear H
                have q24 : (16 : Int) ≤ ((y128012.length : Int) : Int) := odt
                obtain ⟨i024, hi024, _, hsz24, _⟩ := info_parts info5
                have hroom24 : y128012.length ≤ c16 := (Kd.V_reads' HO_0.out).2.1
                have hC24 : Kd.F (Kd.int .u8) _ _ A16 y128012.length y128012 := (Kd.V_at (base := w.heap.size) HO_0.out).2.2
                have hcut24 := cut_from (P := Tryd.prog) 22 5 .i64 Tryd.underlying22 hi024 1 hsz24 A16 y128012.length c16 16 (by omega) q24
                have hr24 := Kd.F_cut (m := (16 : Int).toNat) (c := c16) hC24 (by omega) hroom24
                obtain ⟨A24, hA24⟩ : ∃ A1_, A1_ = (if c16 = (16 : Int).toNat then A16 else (A16 : Option Addr).map (·.add ((16 : Int).toNat * 1))) := ⟨_, rfl⟩
                obtain ⟨c24, hc24⟩ : ∃ c1_, c1_ = c16 - (16 : Int).toNat := ⟨_, rfl⟩
                have hy24 : y128024.length = y128012.length - (16 : Int).toNat := (by rw [Ny128024.out, List.length_drop] <;> omega)
                rw [show (y128012).drop (16 : Int).toNat = y128024 from Ny128024.out.symm] at hr24
                replace hr24 : Kd.F (Kd.int .u8) _ _ A24 y128024.length y128024 := (by rw [hA24]; exact hr24)
                rw [← hy24, ← hA24, ← hc24] at hcut24
                have HO128028 := Aside0.mk (show Kd.V (Kd.int .u8) 5 _ w.heap.size _ (.slice A24 y128024.length c24) y128024 from Kd.V_mk (by rw [hy24, hc24]; exact Nat.sub_le_sub_right hroom24 _) hr24)
                have HC128028 := Aside0.mk (show y128024.length ≤ c24 from by rw [hy24, hc24]; exact Nat.sub_le_sub_right hroom24 _)
                clear hr24 hC24 hroom24 hi024 hsz24 hc24
                have KY24 := Aside0.mk hy24
                have KA24 := Aside0.mk hA24
                clear hy24 hA24
                replace q24 := eq_true q24
                go_wp2
                repeat (go_quiet (fail); try go_wp2)
                go_loopg [0] kj14 (fun kq v0 w' => ∃ (x0_4 : List Int), Aside0 (utf8_Valid.l1 kq x0_4 = some r) ∧ Aside0 (kq ≤ kj14) ∧ Aside0 (Kd.V (Kd.int .u8) 5 w' w.heap.size (fun k_ => (P0_ k_ ∨ w.heap.size ≤ k_)) v0 x0_4) ∧ Aside0 (Below w.heap.size w w'))
                case atStart => exact ⟨(y128024), H', ⟨Nat.le_refl _⟩, ⟨(hrnV HO128028)⟩, ⟨hbw⟩⟩
                case round =>
                 clear H'
                 try clear c1
                 try clear p1
                 try clear q1
                 try clear hx1
                 try clear qi1
                 try clear c2
                 try clear c2b0
                 try clear c2b1
                 try clear p2
                 try clear q2
                 try clear q3
                 try clear c4
                 try clear c4b0
                 try clear c4b1
                 try clear c5
                 try clear c5b0
                 try clear c5b1
                 try clear c6
                 try clear c6b0
                 try clear c7
                 try clear c7b0
                 try clear c7b1
                 try clear c10
                 try clear q10
                 try clear c11
                 try clear c11b0
                 try clear c11b1
                 try clear c12
                 try clear p12
                 try clear q12
                 try clear hx12
                 try clear qi12
                 try clear c13
                 try clear c14
                 try clear c14b0
                 try clear c14b1
                 try clear c16
                 try clear q16
                 try clear c17
                 try clear c17b0
                 try clear c17b1
                 try clear c19
                 try clear c19b0
                 try clear c19b1
                 try clear c21
                 try clear q21
                 try clear c22
                 try clear c23
                 try clear c23b0
                 try clear c23b1
                 try clear c24
                 try clear q24
                 try clear hx128005_0
                 try clear p1
                 try clear p12
                 try clear p128005
                 try clear p2
                 try clear q1
                 try clear q10
                 try clear q12
                 try clear q128005
                 try clear q16
                 try clear q2
                 try clear q21
                 try clear q24
                 try clear q3
                 obtain ⟨x0_4, HA, HK4, HO_0, HB⟩ := hrel
                 cases gk with
                 | zero => exact absurd HA.out (by simp [utf8_Valid.l1])
                 | succ k4 =>
                  have H := HA.out
                  clear HA
                  simp only [utf8_Valid.l1] at H
                  have HC25 := Aside0.mk H
                  clear H
                  go_upto_region 10 with (fail)
                  repeat (go_quiet (fail); go_upto_region 10 with (fail))
                  go_cut [69] (fun v69 wc => ∃ (kq : Nat) (x69_24 : Bool), v69 = .bool x69_24 ∧ Aside0 (utf8_Valid.j4 kq x0_4 x69_24 = some r) ∧ Aside0 (kq ≤ k4) ∧ Aside0 (Kd.V (Kd.int .u8) 5 wc w.heap.size (fun k_ => (P0_ k_ ∨ w.heap.size ≤ k_)) u0 x0_4) ∧ Aside0 (Below w.heap.size w wc))
                  case first =>
                   have H := HC25.out
                   clear HC25
                   by_cases c26 : (x0_4.length : Int) > 32
                   ·rw [if_pos c26] at H
                    have c26b0 : decide (32 < (x0_4.length : Int)) = true := decide_eq_true c26
                    have c26b1 : decide (32 < x0_4.length) = true := decide_eq_true (by omega)
                    clear c26
                    (first | rw [c26b0] | (simp only [i64_w, i32_w]; rw [c26b0]) | skip)
                    replace H := Option.bind_eq_some_iff.mp H
                    obtain ⟨t128029, A270, H⟩ := H
                    replace H : (if 8 ≤ (x0_4.length : Int) then ((utf8_word_byte.f (x0_4.drop 8)).bind fun t128035 => (if 16 ≤ (x0_4.length : Int) then ((utf8_word_byte.f (x0_4.drop 16)).bind fun t128041 => (if 24 ≤ (x0_4.length : Int) then ((utf8_word_byte.f (x0_4.drop 24)).bind fun t128047 => (utf8_Valid.j4 k4 x0_4 ((Go.bits .and .u64 (Go.bits .or .u64 (Go.bits .or .u64 t128029 t128035) (Go.bits .or .u64 t128041 t128047)) 9259542123273814144) == 0))) else (none))) else (none))) else (none)) = some r := H
                    have A27 := Aside0.mk A270
                    clear A270
                    by_cases c28 : 8 ≤ (x0_4.length : Int)
                    ·rw [if_pos c28] at H
                     have c28b0 := eq_true c28
                     have c28b1 : decide (8 ≤ (x0_4.length : Int)) = true := decide_eq_true c28
                     clear c28
                     obtain ⟨y128030, hy128030⟩ : ∃ y_ : List Int, y_ = (x0_4.drop 8) := ⟨_, rfl⟩
                     replace H : ((utf8_word_byte.f y128030).bind fun t128035 => (if 16 ≤ (x0_4.length : Int) then ((utf8_word_byte.f (x0_4.drop 16)).bind fun t128041 => (if 24 ≤ (x0_4.length : Int) then ((utf8_word_byte.f (x0_4.drop 24)).bind fun t128047 => (utf8_Valid.j4 k4 x0_4 ((Go.bits .and .u64 (Go.bits .or .u64 (Go.bits .or .u64 t128029 t128035) (Go.bits .or .u64 t128041 t128047)) 9259542123273814144) == 0))) else (none))) else (none))) = some r := repH hy128030 H
                     have Ny128030 := Aside0.mk hy128030
                     clear hy128030
                     replace H := Option.bind_eq_some_iff.mp H
                     obtain ⟨t128035, A290, H⟩ := H
                     replace H : (if 16 ≤ (x0_4.length : Int) then ((utf8_word_byte.f (x0_4.drop 16)).bind fun t128041 => (if 24 ≤ (x0_4.length : Int) then ((utf8_word_byte.f (x0_4.drop 24)).bind fun t128047 => (utf8_Valid.j4 k4 x0_4 ((Go.bits .and .u64 (Go.bits .or .u64 (Go.bits .or .u64 t128029 t128035) (Go.bits .or .u64 t128041 t128047)) 9259542123273814144) == 0))) else (none))) else (none)) = some r := H
                     have A29 := Aside0.mk A290
                     clear A290
                     by_cases c30 : 16 ≤ (x0_4.length : Int)
                     ·as_aux_lemma =>
                      rw [if_pos c30] at H
                      have c30b0 := eq_true c30
                      have c30b1 : decide (16 ≤ (x0_4.length : Int)) = true := decide_eq_true c30
                      clear c30
                      obtain ⟨y128036, hy128036⟩ : ∃ y_ : List Int, y_ = (x0_4.drop 16) := ⟨_, rfl⟩
                      replace H : ((utf8_word_byte.f y128036).bind fun t128041 => (if 24 ≤ (x0_4.length : Int) then ((utf8_word_byte.f (x0_4.drop 24)).bind fun t128047 => (utf8_Valid.j4 k4 x0_4 ((Go.bits .and .u64 (Go.bits .or .u64 (Go.bits .or .u64 t128029 t128035) (Go.bits .or .u64 t128041 t128047)) 9259542123273814144) == 0))) else (none))) = some r := repH hy128036 H
                      have Ny128036 := Aside0.mk hy128036
                      clear hy128036
                      replace H := Option.bind_eq_some_iff.mp H
                      obtain ⟨t128041, A310, H⟩ := H
                      replace H : (if 24 ≤ (x0_4.length : Int) then ((utf8_word_byte.f (x0_4.drop 24)).bind fun t128047 => (utf8_Valid.j4 k4 x0_4 ((Go.bits .and .u64 (Go.bits .or .u64 (Go.bits .or .u64 t128029 t128035) (Go.bits .or .u64 t128041 t128047)) 9259542123273814144) == 0))) else (none)) = some r := H
                      have A31 := Aside0.mk A310
                      clear A310
                      by_cases c32 : 24 ≤ (x0_4.length : Int)
                      ·rw [if_pos c32] at H
                       have c32b0 := eq_true c32
                       have c32b1 : decide (24 ≤ (x0_4.length : Int)) = true := decide_eq_true c32
                       clear c32
                       obtain ⟨y128042, hy128042⟩ : ∃ y_ : List Int, y_ = (x0_4.drop 24) := ⟨_, rfl⟩
                       replace H : ((utf8_word_byte.f y128042).bind fun t128047 => (utf8_Valid.j4 k4 x0_4 ((Go.bits .and .u64 (Go.bits .or .u64 (Go.bits .or .u64 t128029 t128035) (Go.bits .or .u64 t128041 t128047)) 9259542123273814144) == 0))) = some r := repH hy128042 H
                       have Ny128042 := Aside0.mk hy128042
                       clear hy128042
                       replace H := Option.bind_eq_some_iff.mp H
                       obtain ⟨t128047, A330, H⟩ := H
                       replace H : (utf8_Valid.j4 k4 x0_4 ((Go.bits .and .u64 (Go.bits .or .u64 (Go.bits .or .u64 t128029 t128035) (Go.bits .or .u64 t128041 t128047)) 9259542123273814144) == 0)) = some r := H
                       have A33 := Aside0.mk A330
                       clear A330
                       have H' := Aside0.mk H
                       clear H
                       obtain ⟨Ao34, co34, eo34⟩ := Kd.V_slice HO_0.out
                       subst eo34
                       go_wp2_with (first | (go_at_call 149; (with_reducible refine (utf8_word_byte.calls _ _ x0_4 t128029 _ ?side1 ?side2 A27.out).mono ?_); (case side1 => exact cpl (Kd.V_reads' HO_0.out).2.2); (case side2 => exact (Kd.V_reads' HO_0.out).2.1); rintro e w' ⟨rfl, ⟨nd, rfl⟩⟩; (try first | exact ⟨rfl, _, World.drewN_drewN _ _ _⟩ | exact ⟨rfl, _, Eq.trans (World.drewN_drewN _ _ _) (congrArg (World.drewN _) (Nat.add_assoc _ _ _))⟩); have q35 : (8 : Int) ≤ ((x0_4.length : Int) : Int) := odt; obtain ⟨i035, hi035, _, hsz35, _⟩ := info_parts info5; have hroom35 : x0_4.length ≤ co34 := (Kd.V_reads' HO_0.out).2.1; have hC35 : Kd.F (Kd.int .u8) _ _ Ao34 x0_4.length x0_4 := (Kd.V_at (base := w.heap.size) HO_0.out).2.2; have hcut35 := cut_from (P := Tryd.prog) 22 5 .i64 Tryd.underlying22 hi035 1 hsz35 Ao34 x0_4.length co34 8 (by omega) q35; have hr35 := Kd.F_cut (m := (8 : Int).toNat) (c := co34) hC35 (by omega) hroom35; obtain ⟨A35, hA35⟩ : ∃ A1_, A1_ = (if co34 = (8 : Int).toNat then Ao34 else (Ao34 : Option Addr).map (·.add ((8 : Int).toNat * 1))) := ⟨_, rfl⟩; obtain ⟨c35, hc35⟩ : ∃ c1_, c1_ = co34 - (8 : Int).toNat := ⟨_, rfl⟩; have hy35 : y128030.length = x0_4.length - (8 : Int).toNat := (by rw [Ny128030.out, List.length_drop] <;> omega); rw [show (x0_4).drop (8 : Int).toNat = y128030 from Ny128030.out.symm] at hr35; replace hr35 : Kd.F (Kd.int .u8) _ _ A35 y128030.length y128030 := (by rw [hA35]; exact hr35); rw [← hy35, ← hA35, ← hc35] at hcut35; have HO128034 := Aside0.mk (show Kd.V (Kd.int .u8) 5 _ w.heap.size _ (.slice A35 y128030.length c35) y128030 from Kd.V_mk (by rw [hy35, hc35]; exact Nat.sub_le_sub_right hroom35 _) hr35); have HC128034 := Aside0.mk (show y128030.length ≤ c35 from by rw [hy35, hc35]; exact Nat.sub_le_sub_right hroom35 _); clear hr35 hC35 hroom35 hi035 hsz35 hc35; have KY35 := Aside0.mk hy35; have KA35 := Aside0.mk hA35; clear hy35 hA35; replace q35 := eq_true q35) | (go_at_call 149; (with_reducible refine (utf8_word_byte.calls _ _ y128030 t128035 _ ?side1 ?side2 A29.out).mono ?_); (case side1 => exact cpl (Kd.V_reads' HO128034.out).2.2); (case side2 => exact (Kd.V_reads' HO128034.out).2.1); rintro e w' ⟨rfl, ⟨nd, rfl⟩⟩; (try first | exact ⟨rfl, _, World.drewN_drewN _ _ _⟩ | exact ⟨rfl, _, Eq.trans (World.drewN_drewN _ _ _) (congrArg (World.drewN _) (Nat.add_assoc _ _ _))⟩); have q36 : (16 : Int) ≤ ((x0_4.length : Int) : Int) := odt; obtain ⟨i036, hi036, _, hsz36, _⟩ := info_parts info5; have hroom36 : x0_4.length ≤ co34 := (Kd.V_reads' HO_0.out).2.1; have hC36 : Kd.F (Kd.int .u8) _ _ Ao34 x0_4.length x0_4 := (Kd.V_at (base := w.heap.size) HO_0.out).2.2; have hcut36 := cut_from (P := Tryd.prog) 22 5 .i64 Tryd.underlying22 hi036 1 hsz36 Ao34 x0_4.length co34 16 (by omega) q36; have hr36 := Kd.F_cut (m := (16 : Int).toNat) (c := co34) hC36 (by omega) hroom36; obtain ⟨A36, hA36⟩ : ∃ A1_, A1_ = (if co34 = (16 : Int).toNat then Ao34 else (Ao34 : Option Addr).map (·.add ((16 : Int).toNat * 1))) := ⟨_, rfl⟩; obtain ⟨c36, hc36⟩ : ∃ c1_, c1_ = co34 - (16 : Int).toNat := ⟨_, rfl⟩; have hy36 : y128036.length = x0_4.length - (16 : Int).toNat := (by rw [Ny128036.out, List.length_drop] <;> omega); rw [show (x0_4).drop (16 : Int).toNat = y128036 from Ny128036.out.symm] at hr36; replace hr36 : Kd.F (Kd.int .u8) _ _ A36 y128036.length y128036 := (by rw [hA36]; exact hr36); rw [← hy36, ← hA36, ← hc36] at hcut36; have HO128040 := Aside0.mk (show Kd.V (Kd.int .u8) 5 _ w.heap.size _ (.slice A36 y128036.length c36) y128036 from Kd.V_mk (by rw [hy36, hc36]; exact Nat.sub_le_sub_right hroom36 _) hr36); have HC128040 := Aside0.mk (show y128036.length ≤ c36 from by rw [hy36, hc36]; exact Nat.sub_le_sub_right hroom36 _); clear hr36 hC36 hroom36 hi036 hsz36 hc36; have KY36 := Aside0.mk hy36; have KA36 := Aside0.mk hA36; clear hy36 hA36; replace q36 := eq_true q36) | (go_at_call 149; (with_reducible refine (utf8_word_byte.calls _ _ y128036 t128041 _ ?side1 ?side2 A31.out).mono ?_); (case side1 => exact cpl (Kd.V_reads' HO128040.out).2.2); (case side2 => exact (Kd.V_reads' HO128040.out).2.1); rintro e w' ⟨rfl, ⟨nd, rfl⟩⟩; (try first | exact ⟨rfl, _, World.drewN_drewN _ _ _⟩ | exact ⟨rfl, _, Eq.trans (World.drewN_drewN _ _ _) (congrArg (World.drewN _) (Nat.add_assoc _ _ _))⟩); have q37 : (24 : Int) ≤ ((x0_4.length : Int) : Int) := odt; obtain ⟨i037, hi037, _, hsz37, _⟩ := info_parts info5; have hroom37 : x0_4.length ≤ co34 := (Kd.V_reads' HO_0.out).2.1; have hC37 : Kd.F (Kd.int .u8) _ _ Ao34 x0_4.length x0_4 := (Kd.V_at (base := w.heap.size) HO_0.out).2.2; have hcut37 := cut_from (P := Tryd.prog) 22 5 .i64 Tryd.underlying22 hi037 1 hsz37 Ao34 x0_4.length co34 24 (by omega) q37; have hr37 := Kd.F_cut (m := (24 : Int).toNat) (c := co34) hC37 (by omega) hroom37; obtain ⟨A37, hA37⟩ : ∃ A1_, A1_ = (if co34 = (24 : Int).toNat then Ao34 else (Ao34 : Option Addr).map (·.add ((24 : Int).toNat * 1))) := ⟨_, rfl⟩; obtain ⟨c37, hc37⟩ : ∃ c1_, c1_ = co34 - (24 : Int).toNat := ⟨_, rfl⟩; have hy37 : y128042.length = x0_4.length - (24 : Int).toNat := (by rw [Ny128042.out, List.length_drop] <;> omega); rw [show (x0_4).drop (24 : Int).toNat = y128042 from Ny128042.out.symm] at hr37; replace hr37 : Kd.F (Kd.int .u8) _ _ A37 y128042.length y128042 := (by rw [hA37]; exact hr37); rw [← hy37, ← hA37, ← hc37] at hcut37; have HO128046 := Aside0.mk (show Kd.V (Kd.int .u8) 5 _ w.heap.size _ (.slice A37 y128042.length c37) y128042 from Kd.V_mk (by rw [hy37, hc37]; exact Nat.sub_le_sub_right hroom37 _) hr37); have HC128046 := Aside0.mk (show y128042.length ≤ c37 from by rw [hy37, hc37]; exact Nat.sub_le_sub_right hroom37 _); clear hr37 hC37 hroom37 hi037 hsz37 hc37; have KY37 := Aside0.mk hy37; have KA37 := Aside0.mk hA37; clear hy37 hA37; replace q37 := eq_true q37) | (go_at_call 149; (with_reducible refine (utf8_word_byte.calls _ _ y128042 t128047 _ ?side1 ?side2 A33.out).mono ?_); (case side1 => exact cpl (Kd.V_reads' HO128046.out).2.2); (case side2 => exact (Kd.V_reads' HO128046.out).2.1); rintro e w' ⟨rfl, ⟨nd, rfl⟩⟩; (try first | exact ⟨rfl, _, World.drewN_drewN _ _ _⟩ | exact ⟨rfl, _, Eq.trans (World.drewN_drewN _ _ _) (congrArg (World.drewN _) (Nat.add_assoc _ _ _))⟩)))
                       repeat (go_quiet (first | (go_at_call 149; (with_reducible refine (utf8_word_byte.calls _ _ x0_4 t128029 _ ?side1 ?side2 A27.out).mono ?_); (case side1 => exact cpl (Kd.V_reads' HO_0.out).2.2); (case side2 => exact (Kd.V_reads' HO_0.out).2.1); rintro e w' ⟨rfl, ⟨nd, rfl⟩⟩; (try first | exact ⟨rfl, _, World.drewN_drewN _ _ _⟩ | exact ⟨rfl, _, Eq.trans (World.drewN_drewN _ _ _) (congrArg (World.drewN _) (Nat.add_assoc _ _ _))⟩); have q35 : (8 : Int) ≤ ((x0_4.length : Int) : Int) := odt; obtain ⟨i035, hi035, _, hsz35, _⟩ := info_parts info5; have hroom35 : x0_4.length ≤ co34 := (Kd.V_reads' HO_0.out).2.1; have hC35 : Kd.F (Kd.int .u8) _ _ Ao34 x0_4.length x0_4 := (Kd.V_at (base := w.heap.size) HO_0.out).2.2; have hcut35 := cut_from (P := Tryd.prog) 22 5 .i64 Tryd.underlying22 hi035 1 hsz35 Ao34 x0_4.length co34 8 (by omega) q35; have hr35 := Kd.F_cut (m := (8 : Int).toNat) (c := co34) hC35 (by omega) hroom35; obtain ⟨A35, hA35⟩ : ∃ A1_, A1_ = (if co34 = (8 : Int).toNat then Ao34 else (Ao34 : Option Addr).map (·.add ((8 : Int).toNat * 1))) := ⟨_, rfl⟩; obtain ⟨c35, hc35⟩ : ∃ c1_, c1_ = co34 - (8 : Int).toNat := ⟨_, rfl⟩; have hy35 : y128030.length = x0_4.length - (8 : Int).toNat := (by rw [Ny128030.out, List.length_drop] <;> omega); rw [show (x0_4).drop (8 : Int).toNat = y128030 from Ny128030.out.symm] at hr35; replace hr35 : Kd.F (Kd.int .u8) _ _ A35 y128030.length y128030 := (by rw [hA35]; exact hr35); rw [← hy35, ← hA35, ← hc35] at hcut35; have HO128034 := Aside0.mk (show Kd.V (Kd.int .u8) 5 _ w.heap.size _ (.slice A35 y128030.length c35) y128030 from Kd.V_mk (by rw [hy35, hc35]; exact Nat.sub_le_sub_right hroom35 _) hr35); have HC128034 := Aside0.mk (show y128030.length ≤ c35 from by rw [hy35, hc35]; exact Nat.sub_le_sub_right hroom35 _); clear hr35 hC35 hroom35 hi035 hsz35 hc35; have KY35 := Aside0.mk hy35; have KA35 := Aside0.mk hA35; clear hy35 hA35; replace q35 := eq_true q35) | (go_at_call 149; (with_reducible refine (utf8_word_byte.calls _ _ y128030 t128035 _ ?side1 ?side2 A29.out).mono ?_); (case side1 => exact cpl (Kd.V_reads' HO128034.out).2.2); (case side2 => exact (Kd.V_reads' HO128034.out).2.1); rintro e w' ⟨rfl, ⟨nd, rfl⟩⟩; (try first | exact ⟨rfl, _, World.drewN_drewN _ _ _⟩ | exact ⟨rfl, _, Eq.trans (World.drewN_drewN _ _ _) (congrArg (World.drewN _) (Nat.add_assoc _ _ _))⟩); have q36 : (16 : Int) ≤ ((x0_4.length : Int) : Int) := odt; obtain ⟨i036, hi036, _, hsz36, _⟩ := info_parts info5; have hroom36 : x0_4.length ≤ co34 := (Kd.V_reads' HO_0.out).2.1; have hC36 : Kd.F (Kd.int .u8) _ _ Ao34 x0_4.length x0_4 := (Kd.V_at (base := w.heap.size) HO_0.out).2.2; have hcut36 := cut_from (P := Tryd.prog) 22 5 .i64 Tryd.underlying22 hi036 1 hsz36 Ao34 x0_4.length co34 16 (by omega) q36; have hr36 := Kd.F_cut (m := (16 : Int).toNat) (c := co34) hC36 (by omega) hroom36; obtain ⟨A36, hA36⟩ : ∃ A1_, A1_ = (if co34 = (16 : Int).toNat then Ao34 else (Ao34 : Option Addr).map (·.add ((16 : Int).toNat * 1))) := ⟨_, rfl⟩; obtain ⟨c36, hc36⟩ : ∃ c1_, c1_ = co34 - (16 : Int).toNat := ⟨_, rfl⟩; have hy36 : y128036.length = x0_4.length - (16 : Int).toNat := (by rw [Ny128036.out, List.length_drop] <;> omega); rw [show (x0_4).drop (16 : Int).toNat = y128036 from Ny128036.out.symm] at hr36; replace hr36 : Kd.F (Kd.int .u8) _ _ A36 y128036.length y128036 := (by rw [hA36]; exact hr36); rw [← hy36, ← hA36, ← hc36] at hcut36; have HO128040 := Aside0.mk (show Kd.V (Kd.int .u8) 5 _ w.heap.size _ (.slice A36 y128036.length c36) y128036 from Kd.V_mk (by rw [hy36, hc36]; exact Nat.sub_le_sub_right hroom36 _) hr36); have HC128040 := Aside0.mk (show y128036.length ≤ c36 from by rw [hy36, hc36]; exact Nat.sub_le_sub_right hroom36 _); clear hr36 hC36 hroom36 hi036 hsz36 hc36; have KY36 := Aside0.mk hy36; have KA36 := Aside0.mk hA36; clear hy36 hA36; replace q36 := eq_true q36) | (go_at_call 149; (with_reducible refine (utf8_word_byte.calls _ _ y128036 t128041 _ ?side1 ?side2 A31.out).mono ?_); (case side1 => exact cpl (Kd.V_reads' HO128040.out).2.2); (case side2 => exact (Kd.V_reads' HO128040.out).2.1); rintro e w' ⟨rfl, ⟨nd, rfl⟩⟩; (try first | exact ⟨rfl, _, World.drewN_drewN _ _ _⟩ | exact ⟨rfl, _, Eq.trans (World.drewN_drewN _ _ _) (congrArg (World.drewN _) (Nat.add_assoc _ _ _))⟩); have q37 : (24 : Int) ≤ ((x0_4.length : Int) : Int) := odt; obtain ⟨i037, hi037, _, hsz37, _⟩ := info_parts info5; have hroom37 : x0_4.length ≤ co34 := (Kd.V_reads' HO_0.out).2.1; have hC37 : Kd.F (Kd.int .u8) _ _ Ao34 x0_4.length x0_4 := (Kd.V_at (base := w.heap.size) HO_0.out).2.2; have hcut37 := cut_from (P := Tryd.prog) 22 5 .i64 Tryd.underlying22 hi037 1 hsz37 Ao34 x0_4.length co34 24 (by omega) q37; have hr37 := Kd.F_cut (m := (24 : Int).toNat) (c := co34) hC37 (by omega) hroom37; obtain ⟨A37, hA37⟩ : ∃ A1_, A1_ = (if co34 = (24 : Int).toNat then Ao34 else (Ao34 : Option Addr).map (·.add ((24 : Int).toNat * 1))) := ⟨_, rfl⟩; obtain ⟨c37, hc37⟩ : ∃ c1_, c1_ = co34 - (24 : Int).toNat := ⟨_, rfl⟩; have hy37 : y128042.length = x0_4.length - (24 : Int).toNat := (by rw [Ny128042.out, List.length_drop] <;> omega); rw [show (x0_4).drop (24 : Int).toNat = y128042 from Ny128042.out.symm] at hr37; replace hr37 : Kd.F (Kd.int .u8) _ _ A37 y128042.length y128042 := (by rw [hA37]; exact hr37); rw [← hy37, ← hA37, ← hc37] at hcut37; have HO128046 := Aside0.mk (show Kd.V (Kd.int .u8) 5 _ w.heap.size _ (.slice A37 y128042.length c37) y128042 from Kd.V_mk (by rw [hy37, hc37]; exact Nat.sub_le_sub_right hroom37 _) hr37); have HC128046 := Aside0.mk (show y128042.length ≤ c37 from by rw [hy37, hc37]; exact Nat.sub_le_sub_right hroom37 _); clear hr37 hC37 hroom37 hi037 hsz37 hc37; have KY37 := Aside0.mk hy37; have KA37 := Aside0.mk hA37; clear hy37 hA37; replace q37 := eq_true q37) | (go_at_call 149; (with_reducible refine (utf8_word_byte.calls _ _ y128042 t128047 _ ?side1 ?side2 A33.out).mono ?_); (case side1 => exact cpl (Kd.V_reads' HO128046.out).2.2); (case side2 => exact (Kd.V_reads' HO128046.out).2.1); rintro e w' ⟨rfl, ⟨nd, rfl⟩⟩; (try first | exact ⟨rfl, _, World.drewN_drewN _ _ _⟩ | exact ⟨rfl, _, Eq.trans (World.drewN_drewN _ _ _) (congrArg (World.drewN _) (Nat.add_assoc _ _ _))⟩))); try go_wp2_with (first | (go_at_call 149; (with_reducible refine (utf8_word_byte.calls _ _ x0_4 t128029 _ ?side1 ?side2 A27.out).mono ?_); (case side1 => exact cpl (Kd.V_reads' HO_0.out).2.2); (case side2 => exact (Kd.V_reads' HO_0.out).2.1); rintro e w' ⟨rfl, ⟨nd, rfl⟩⟩; (try first | exact ⟨rfl, _, World.drewN_drewN _ _ _⟩ | exact ⟨rfl, _, Eq.trans (World.drewN_drewN _ _ _) (congrArg (World.drewN _) (Nat.add_assoc _ _ _))⟩); have q35 : (8 : Int) ≤ ((x0_4.length : Int) : Int) := odt; obtain ⟨i035, hi035, _, hsz35, _⟩ := info_parts info5; have hroom35 : x0_4.length ≤ co34 := (Kd.V_reads' HO_0.out).2.1; have hC35 : Kd.F (Kd.int .u8) _ _ Ao34 x0_4.length x0_4 := (Kd.V_at (base := w.heap.size) HO_0.out).2.2; have hcut35 := cut_from (P := Tryd.prog) 22 5 .i64 Tryd.underlying22 hi035 1 hsz35 Ao34 x0_4.length co34 8 (by omega) q35; have hr35 := Kd.F_cut (m := (8 : Int).toNat) (c := co34) hC35 (by omega) hroom35; obtain ⟨A35, hA35⟩ : ∃ A1_, A1_ = (if co34 = (8 : Int).toNat then Ao34 else (Ao34 : Option Addr).map (·.add ((8 : Int).toNat * 1))) := ⟨_, rfl⟩; obtain ⟨c35, hc35⟩ : ∃ c1_, c1_ = co34 - (8 : Int).toNat := ⟨_, rfl⟩; have hy35 : y128030.length = x0_4.length - (8 : Int).toNat := (by rw [Ny128030.out, List.length_drop] <;> omega); rw [show (x0_4).drop (8 : Int).toNat = y128030 from Ny128030.out.symm] at hr35; replace hr35 : Kd.F (Kd.int .u8) _ _ A35 y128030.length y128030 := (by rw [hA35]; exact hr35); rw [← hy35, ← hA35, ← hc35] at hcut35; have HO128034 := Aside0.mk (show Kd.V (Kd.int .u8) 5 _ w.heap.size _ (.slice A35 y128030.length c35) y128030 from Kd.V_mk (by rw [hy35, hc35]; exact Nat.sub_le_sub_right hroom35 _) hr35); have HC128034 := Aside0.mk (show y128030.length ≤ c35 from by rw [hy35, hc35]; exact Nat.sub_le_sub_right hroom35 _); clear hr35 hC35 hroom35 hi035 hsz35 hc35; have KY35 := Aside0.mk hy35; have KA35 := Aside0.mk hA35; clear hy35 hA35; replace q35 := eq_true q35) | (go_at_call 149; (with_reducible refine (utf8_word_byte.calls _ _ y128030 t128035 _ ?side1 ?side2 A29.out).mono ?_); (case side1 => exact cpl (Kd.V_reads' HO128034.out).2.2); (case side2 => exact (Kd.V_reads' HO128034.out).2.1); rintro e w' ⟨rfl, ⟨nd, rfl⟩⟩; (try first | exact ⟨rfl, _, World.drewN_drewN _ _ _⟩ | exact ⟨rfl, _, Eq.trans (World.drewN_drewN _ _ _) (congrArg (World.drewN _) (Nat.add_assoc _ _ _))⟩); have q36 : (16 : Int) ≤ ((x0_4.length : Int) : Int) := odt; obtain ⟨i036, hi036, _, hsz36, _⟩ := info_parts info5; have hroom36 : x0_4.length ≤ co34 := (Kd.V_reads' HO_0.out).2.1; have hC36 : Kd.F (Kd.int .u8) _ _ Ao34 x0_4.length x0_4 := (Kd.V_at (base := w.heap.size) HO_0.out).2.2; have hcut36 := cut_from (P := Tryd.prog) 22 5 .i64 Tryd.underlying22 hi036 1 hsz36 Ao34 x0_4.length co34 16 (by omega) q36; have hr36 := Kd.F_cut (m := (16 : Int).toNat) (c := co34) hC36 (by omega) hroom36; obtain ⟨A36, hA36⟩ : ∃ A1_, A1_ = (if co34 = (16 : Int).toNat then Ao34 else (Ao34 : Option Addr).map (·.add ((16 : Int).toNat * 1))) := ⟨_, rfl⟩; obtain ⟨c36, hc36⟩ : ∃ c1_, c1_ = co34 - (16 : Int).toNat := ⟨_, rfl⟩; have hy36 : y128036.length = x0_4.length - (16 : Int).toNat := (by rw [Ny128036.out, List.length_drop] <;> omega); rw [show (x0_4).drop (16 : Int).toNat = y128036 from Ny128036.out.symm] at hr36; replace hr36 : Kd.F (Kd.int .u8) _ _ A36 y128036.length y128036 := (by rw [hA36]; exact hr36); rw [← hy36, ← hA36, ← hc36] at hcut36; have HO128040 := Aside0.mk (show Kd.V (Kd.int .u8) 5 _ w.heap.size _ (.slice A36 y128036.length c36) y128036 from Kd.V_mk (by rw [hy36, hc36]; exact Nat.sub_le_sub_right hroom36 _) hr36); have HC128040 := Aside0.mk (show y128036.length ≤ c36 from by rw [hy36, hc36]; exact Nat.sub_le_sub_right hroom36 _); clear hr36 hC36 hroom36 hi036 hsz36 hc36; have KY36 := Aside0.mk hy36; have KA36 := Aside0.mk hA36; clear hy36 hA36; replace q36 := eq_true q36) | (go_at_call 149; (with_reducible refine (utf8_word_byte.calls _ _ y128036 t128041 _ ?side1 ?side2 A31.out).mono ?_); (case side1 => exact cpl (Kd.V_reads' HO128040.out).2.2); (case side2 => exact (Kd.V_reads' HO128040.out).2.1); rintro e w' ⟨rfl, ⟨nd, rfl⟩⟩; (try first | exact ⟨rfl, _, World.drewN_drewN _ _ _⟩ | exact ⟨rfl, _, Eq.trans (World.drewN_drewN _ _ _) (congrArg (World.drewN _) (Nat.add_assoc _ _ _))⟩); have q37 : (24 : Int) ≤ ((x0_4.length : Int) : Int) := odt; obtain ⟨i037, hi037, _, hsz37, _⟩ := info_parts info5; have hroom37 : x0_4.length ≤ co34 := (Kd.V_reads' HO_0.out).2.1; have hC37 : Kd.F (Kd.int .u8) _ _ Ao34 x0_4.length x0_4 := (Kd.V_at (base := w.heap.size) HO_0.out).2.2; have hcut37 := cut_from (P := Tryd.prog) 22 5 .i64 Tryd.underlying22 hi037 1 hsz37 Ao34 x0_4.length co34 24 (by omega) q37; have hr37 := Kd.F_cut (m := (24 : Int).toNat) (c := co34) hC37 (by omega) hroom37; obtain ⟨A37, hA37⟩ : ∃ A1_, A1_ = (if co34 = (24 : Int).toNat then Ao34 else (Ao34 : Option Addr).map (·.add ((24 : Int).toNat * 1))) := ⟨_, rfl⟩; obtain ⟨c37, hc37⟩ : ∃ c1_, c1_ = co34 - (24 : Int).toNat := ⟨_, rfl⟩; have hy37 : y128042.length = x0_4.length - (24 : Int).toNat := (by rw [Ny128042.out, List.length_drop] <;> omega); rw [show (x0_4).drop (24 : Int).toNat = y128042 from Ny128042.out.symm] at hr37; replace hr37 : Kd.F (Kd.int .u8) _ _ A37 y128042.length y128042 := (by rw [hA37]; exact hr37); rw [← hy37, ← hA37, ← hc37] at hcut37; have HO128046 := Aside0.mk (show Kd.V (Kd.int .u8) 5 _ w.heap.size _ (.slice A37 y128042.length c37) y128042 from Kd.V_mk (by rw [hy37, hc37]; exact Nat.sub_le_sub_right hroom37 _) hr37); have HC128046 := Aside0.mk (show y128042.length ≤ c37 from by rw [hy37, hc37]; exact Nat.sub_le_sub_right hroom37 _); clear hr37 hC37 hroom37 hi037 hsz37 hc37; have KY37 := Aside0.mk hy37; have KA37 := Aside0.mk hA37; clear hy37 hA37; replace q37 := eq_true q37) | (go_at_call 149; (with_reducible refine (utf8_word_byte.calls _ _ y128042 t128047 _ ?side1 ?side2 A33.out).mono ?_); (case side1 => exact cpl (Kd.V_reads' HO128046.out).2.2); (case side2 => exact (Kd.V_reads' HO128046.out).2.1); rintro e w' ⟨rfl, ⟨nd, rfl⟩⟩; (try first | exact ⟨rfl, _, World.drewN_drewN _ _ _⟩ | exact ⟨rfl, _, Eq.trans (World.drewN_drewN _ _ _) (congrArg (World.drewN _) (Nat.add_assoc _ _ _))⟩))))
                       go_meet
                       case rel => exact ⟨_, (((Go.bits .and .u64 (Go.bits .or .u64 (Go.bits .or .u64 t128029 t128035) (Go.bits .or .u64 t128041 t128047)) 9259542123273814144) == 0)), rfs, H', ⟨by have := HK1.out; have := HJ7.out; have := HJ14.out; have := HK4.out; first | omega | exact Nat.le_refl _⟩, ⟨(hrnV HO_0)⟩, ⟨hbw⟩⟩
                      ·rw [if_neg c32] at H
                       exact absurd H (by simp)
                     ·rw [if_neg c30] at H
                      exact absurd H (by simp)
                    ·rw [if_neg c28] at H
                     exact absurd H (by simp)
                   ·as_aux_lemma =>
                    rw [if_neg c26] at H
                    have c26b0 : decide (32 < (x0_4.length : Int)) = false := decide_eq_false c26
                    have c26b1 : decide (32 < x0_4.length) = false := decide_eq_false (by omega)
                    clear c26
                    (first | rw [c26b0] | (simp only [i64_w, i32_w]; rw [c26b0]) | skip)
                    have H' := Aside0.mk H
                    clear H
                    obtain ⟨Ao38, co38, eo38⟩ := Kd.V_slice HO_0.out
                    subst eo38
                    go_wp2
                    repeat (go_quiet (fail); try go_wp2)
                    go_meet
                    case rel => exact ⟨_, (false), rfs, H', ⟨by have := HK1.out; have := HJ7.out; have := HJ14.out; have := HK4.out; first | omega | exact Nat.le_refl _⟩, ⟨(hrnV HO_0)⟩, ⟨hbw⟩⟩
                  case rest =>
                   clear HC25
                   try clear c1
                   try clear p1
                   try clear q1
                   try clear hx1
                   try clear qi1
                   try clear c2
                   try clear c2b0
                   try clear c2b1
                   try clear p2
                   try clear q2
                   try clear c3
                   try clear q3
                   try clear c4
                   try clear c4b0
                   try clear c4b1
                   try clear c5
                   try clear c5b0
                   try clear c5b1
                   try clear c6
                   try clear c6b0
                   try clear c7
                   try clear c7b0
                   try clear c7b1
                   try clear c10
                   try clear q10
                   try clear c11
                   try clear c11b0
                   try clear c11b1
                   try clear c12
                   try clear p12
                   try clear q12
                   try clear hx12
                   try clear qi12
                   try clear c13
                   try clear c14
                   try clear c14b0
                   try clear c14b1
                   try clear c16
                   try clear q16
                   try clear c17
                   try clear c17b0
                   try clear c17b1
                   try clear c19
                   try clear c19b0
                   try clear c19b1
                   try clear c21
                   try clear q21
                   try clear c22
                   try clear c23
                   try clear c23b0
                   try clear c23b1
                   try clear c24
                   try clear q24
                   try clear c26
                   try clear c26b0
                   try clear c26b1
                   try clear c28
                   try clear c28b0
                   try clear c28b1
                   try clear c30
                   try clear c30b0
                   try clear c30b1
                   try clear c32
                   try clear c32b0
                   try clear c32b1
                   try clear c35
                   try clear q35
                   try clear c36
                   try clear q36
                   try clear c37
                   try clear q37
                   try clear hx128005_0
                   try clear p1
                   try clear p12
                   try clear p128005
                   try clear p2
                   try clear q1
                   try clear q10
                   try clear q12
                   try clear q128005
                   try clear q16
                   try clear q2
                   try clear q21
                   try clear q24
                   try clear q3
                   try clear q35
                   try clear q36
                   try clear q37
                   obtain ⟨kq, x69_24, rfl, HA, HJ24, HO_0, HB⟩ := hcut
                   cases kq with
                   | zero => exact absurd HA.out (by simp [utf8_Valid.j4])
                   | succ kj24 =>
                    have H := HA.out
                    clear HA
                    simp only [utf8_Valid.j4] at H
                    by_cases c39 : x69_24 = true
                    ·as_aux_lemma =>
                     subst c39
                     have H1 : (if 32 ≤ (x0_4.length : Int) then (utf8_Valid.l1 kj24 (x0_4.drop 32)) else (none)) = some r := by rw [if_pos rfl] at H; exact H
                     clear H
                     have H := H1
                     clear H1
                     by_cases c40 : 32 ≤ (x0_4.length : Int)
                     ·rw [if_pos c40] at H
                      have c40b0 := eq_true c40
                      have c40b1 : decide (32 ≤ (x0_4.length : Int)) = true := decide_eq_true c40
                      clear c40
                      obtain ⟨y128048, hy128048⟩ : ∃ y_ : List Int, y_ = (x0_4.drop 32) := ⟨_, rfl⟩
                      replace H : (utf8_Valid.l1 kj24 y128048) = some r := repH hy128048 H
                      have Ny128048 := Aside0.mk hy128048
                      clear hy128048
                      have H' := Aside0.mk H
                      clear H
                      obtain ⟨Ao42, co42, eo42⟩ := Kd.V_slice HO_0.out
                      subst eo42
                      have q41 : (32 : Int) ≤ ((x0_4.length : Int) : Int) := odt
                      obtain ⟨i041, hi041, _, hsz41, _⟩ := info_parts info5
                      have hroom41 : x0_4.length ≤ co42 := (Kd.V_reads' HO_0.out).2.1
                      have hC41 : Kd.F (Kd.int .u8) _ _ Ao42 x0_4.length x0_4 := (Kd.V_at (base := w.heap.size) HO_0.out).2.2
                      have hcut41 := cut_from (P := Tryd.prog) 22 5 .i64 Tryd.underlying22 hi041 1 hsz41 Ao42 x0_4.length co42 32 (by omega) q41
                      have hr41 := Kd.F_cut (m := (32 : Int).toNat) (c := co42) hC41 (by omega) hroom41
                      obtain ⟨A41, hA41⟩ : ∃ A1_, A1_ = (if co42 = (32 : Int).toNat then Ao42 else (Ao42 : Option Addr).map (·.add ((32 : Int).toNat * 1))) := ⟨_, rfl⟩
                      obtain ⟨c41, hc41⟩ : ∃ c1_, c1_ = co42 - (32 : Int).toNat := ⟨_, rfl⟩
                      have hy41 : y128048.length = x0_4.length - (32 : Int).toNat := (by rw [Ny128048.out, List.length_drop] <;> omega)
                      rw [show (x0_4).drop (32 : Int).toNat = y128048 from Ny128048.out.symm] at hr41
                      replace hr41 : Kd.F (Kd.int .u8) _ _ A41 y128048.length y128048 := (by rw [hA41]; exact hr41)
                      rw [← hy41, ← hA41, ← hc41] at hcut41
                      have HO128052 := Aside0.mk (show Kd.V (Kd.int .u8) 5 _ w.heap.size _ (.slice A41 y128048.length c41) y128048 from Kd.V_mk (by rw [hy41, hc41]; exact Nat.sub_le_sub_right hroom41 _) hr41)
                      have HC128052 := Aside0.mk (show y128048.length ≤ c41 from by rw [hy41, hc41]; exact Nat.sub_le_sub_right hroom41 _)
                      clear hr41 hC41 hroom41 hi041 hsz41 hc41
                      have KY41 := Aside0.mk hy41
                      have KA41 := Aside0.mk hA41
                      clear hy41 hA41
                      replace q41 := eq_true q41
                      go_wp2
                      repeat (go_quiet (fail); try go_wp2)
                      go_roundg kj24
                      case measure => have := HK1.out; have := HJ7.out; have := HJ14.out; have := HK4.out; have := HJ24.out; omega
                      case rel => exact ⟨(y128048), H', ⟨by have := HK1.out; have := HJ7.out; have := HJ14.out; have := HK4.out; have := HJ24.out; omega⟩, ⟨(hrnV HO128052)⟩, ⟨hbw⟩⟩
                     ·rw [if_neg c40] at H
                      exact absurd H (by simp)
                    ·as_aux_lemma =>
                     replace c39 := Bool.eq_false_iff.mpr c39
                     subst c39
                     have H1 : (utf8_Valid.l0 kj24 x0_4) = some r := by rw [if_neg (show ¬ (false = true) by decide)] at H; exact H
                     clear H
                     have H := H1
                     clear H1
                     have H' := Aside0.mk H
                     clear H
                     go_wp2
                     repeat (go_quiet (fail); try go_wp2)
                     go_roundg kj24
                     case measure => have := HK1.out; have := HJ7.out; have := HJ14.out; have := HK4.out; have := HJ24.out; omega
                     case rel => exact ⟨(x0_4), H', ⟨by have := HK1.out; have := HJ7.out; have := HJ14.out; have := HK4.out; have := HJ24.out; omega⟩, ⟨(hrnV HO_0)⟩, ⟨hbw⟩⟩
               ·rw [if_neg c23] at H
                exact absurd H (by simp)
              ·as_aux_lemma =>
               replace c22 := Bool.eq_false_iff.mpr c22
               subst c22
               have H1 : (utf8_Valid.l0 kj14 y128012) = some r := by rw [if_neg (show ¬ (false = true) by decide)] at H; exact H
               clear H
               have H := H1
               clear H1
               have H' := Aside0.mk H
               clear H
               go_wp2
               repeat (go_quiet (fail); try go_wp2)
               go_roundg kj14
               case measure => have := HK1.out; have := HJ7.out; have := HJ14.out; omega
               case rel => exact ⟨(y128012), H', ⟨by have := HK1.out; have := HJ7.out; have := HJ14.out; omega⟩, ⟨(hrnV HO_0)⟩, ⟨hbw⟩⟩
           ·rw [if_neg c14] at H
            exact absurd H (by simp)
          ·as_aux_lemma =>
           replace c13 := Bool.eq_false_iff.mpr c13
           subst c13
           have H1 : (utf8_Valid.l0 kj7 y128006) = some r := by rw [if_neg (show ¬ (false = true) by decide)] at H; exact H
           clear H
           have H := H1
           clear H1
           have H' := Aside0.mk H
           clear H
           go_wp2
           repeat (go_quiet (fail); try go_wp2)
           go_roundg kj7
           case measure => have := HK1.out; have := HJ7.out; omega
           case rel => exact ⟨(y128006), H', ⟨by have := HK1.out; have := HJ7.out; omega⟩, ⟨(hrnV HO_0)⟩, ⟨hbw⟩⟩
       ·rw [if_neg c7] at H
        exact absurd H (by simp)
      ·rw [if_neg c6] at H
       have c6b0 : decide ((rd x0_1 0) < 128) = false := decide_eq_false c6
       clear c6
       by_cases c43 : 0 ≤ (rd x0_1 0)
       ·rw [if_pos c43] at H
        have c43b0 : decide (0 ≤ (rd x0_1 0)) = true := decide_eq_true c43
        clear c43
        by_cases c44 : (rd x0_1 0) < 256
        ·rw [if_pos c44] at H
         have c44b0 : decide ((rd x0_1 0) < 256) = true := decide_eq_true c44
         clear c44
         obtain ⟨ji45, hji45⟩ : ∃ j_ : Int, ((rd gtab0 (rd x0_1 0)) / 16) = j_ := ⟨_, rfl⟩
         replace H : (if 0 ≤ (ji45) then (if (ji45) < 16 then (if (wrap64 (Go.bits .and .u8 (rd gtab0 (rd x0_1 0)) 7)) = 2 then (if (x0_1.length : Int) < 2 then (utf8_Valid.j5 k1 x0_1 true) else (if 1 < (x0_1.length : Int) then (if (rd x0_1 1) < ((rd_T161 gtab1 (ji45)).f0) then (utf8_Valid.j5 k1 x0_1 true) else (utf8_Valid.j5 k1 x0_1 (decide (((rd_T161 gtab1 (ji45)).f1) < (rd x0_1 1))))) else (none))) else (if (wrap64 (Go.bits .and .u8 (rd gtab0 (rd x0_1 0)) 7)) = 3 then (if (x0_1.length : Int) < 3 then (utf8_Valid.j6 k1 x0_1 true) else (if 1 < (x0_1.length : Int) then (if (rd x0_1 1) < ((rd_T161 gtab1 (ji45)).f0) then (utf8_Valid.j6 k1 x0_1 true) else (if ((rd_T161 gtab1 (ji45)).f1) < (rd x0_1 1) then (utf8_Valid.j6 k1 x0_1 true) else (if 2 < (x0_1.length : Int) then (if (rd x0_1 2) < 128 then (utf8_Valid.j6 k1 x0_1 true) else (utf8_Valid.j6 k1 x0_1 (decide (191 < (rd x0_1 2))))) else (none)))) else (none))) else (if (wrap64 (Go.bits .and .u8 (rd gtab0 (rd x0_1 0)) 7)) = 4 then (if (x0_1.length : Int) < 4 then (utf8_Valid.j7 k1 x0_1 true) else (if 1 < (x0_1.length : Int) then (if (rd x0_1 1) < ((rd_T161 gtab1 (ji45)).f0) then (utf8_Valid.j7 k1 x0_1 true) else (if ((rd_T161 gtab1 (ji45)).f1) < (rd x0_1 1) then (utf8_Valid.j7 k1 x0_1 true) else (if 2 < (x0_1.length : Int) then (if (rd x0_1 2) < 128 then (utf8_Valid.j7 k1 x0_1 true) else (if 191 < (rd x0_1 2) then (utf8_Valid.j7 k1 x0_1 true) else (if 3 < (x0_1.length : Int) then (if (rd x0_1 3) < 128 then (utf8_Valid.j7 k1 x0_1 true) else (utf8_Valid.j7 k1 x0_1 (decide (191 < (rd x0_1 3))))) else (none)))) else (none)))) else (none))) else (some false)))) else (none)) else (none)) = some r := by first | (rw [hji45] at H; exact H) | (simp only [hji45] at H ⊢; exact H)
         by_cases c46 : 0 ≤ (ji45)
         ·rw [if_pos c46] at H
          have c46b0 : decide (0 ≤ (ji45)) = true := decide_eq_true c46
          clear c46
          by_cases c47 : (ji45) < 16
          ·rw [if_pos c47] at H
           have c47b0 : decide ((ji45) < 16) = true := decide_eq_true c47
           clear c47
           by_cases c48 : (wrap64 (Go.bits .and .u8 (rd gtab0 (rd x0_1 0)) 7)) = 2
           ·rw [if_pos c48] at H
            have c48b0 : ((wrap64 (Go.bits .and .u8 (rd gtab0 (rd x0_1 0)) 7)) == 2) = true := beq_iff_eq.mpr c48
            have c48b1 : ((wrap64 (Go.bits .and .u8 (rd gtab0 (rd x0_1 0)) 7)) != 2) = false := bne_eq_false_iff_eq.mpr c48
            clear c48
            have HC49 := Aside0.mk H
            clear H
            obtain ⟨Ao50, co50, eo50⟩ := Kd.V_slice HO_0.out
            subst eo50
            have p128005 : 0 ≤ (0 : Int) := (by omega)
            have q128005 : 0 < (x0_1.length : Int) := odt
            obtain ⟨ad128005, e128005, hx128005_0⟩ := Kd.at_int (Kd.V_reads' HO_0.out).2.2 0 p128005 q128005
            cases e128005
            have qi128005 : (0 < x0_1.length) = True := eq_true (by omega)
            (try rw [show ((0 : Int)).toNat = 0 from rfl] at hx128005_0)
            (try rw [Addr.add_zero'] at hx128005_0)
            replace p128005 := eq_true p128005
            replace q128005 := eq_true q128005
            have p128053 : 0 ≤ ((rd x0_1 0) : Int) := odt
            have q128053 : (rd x0_1 0) < (256 : Int) := odt
            have hx128053_0 := GTab.at0 (show GTab wr from GTab.below hG hbw) ((rd x0_1 0)) p128053 q128053
            replace p128053 := eq_true p128053
            replace q128053 := eq_true q128053
            have p128054 : 0 ≤ ((ji45) : Int) := odt
            have q128054 : (ji45) < (16 : Int) := odt
            have hx128054_0 := GTab.at1_0 (show GTab wr from GTab.below hG hbw) ((ji45)) p128054 q128054
            have hx128054_1 := GTab.at1_1 (show GTab wr from GTab.below hG hbw) ((ji45)) p128054 q128054
            replace p128054 := eq_true p128054
            replace q128054 := eq_true q128054
            go_upto_region 18 with (first | ((with_reducible refine gate_dst (N := 6) rfl ?_); refine boxE 6 #[.int .u8 0, .int .u8 0] 161 ?_; intro gb128055 hg w51 BK128055 hb; have GW128055 := Aside0.mk (gsz hg hbw : w.heap.size ≤ gb128055); have GE128055 := GW128055; replace HO_0 := Aside0.mk (Kd.V_below (Kd.V_elderB (hrnV HO_0) gb128055 (Nat.le_of_eq hg.symm)) hb); replace HB := Aside0.mk (below_step hbw hb); clear hb hg; have hcz52_0 : w51.cell? ⟨gb128055, 0, none⟩ = some (.int .u8 0) := (blk_cell BK128055.out 0).trans rfl; have hcz52_1 : w51.cell? ⟨gb128055, 1, none⟩ = some (.int .u8 0) := (blk_cell BK128055.out 1).trans rfl; have hfz52_0 := blk_frozen BK128055.out 0; have hfz52_1 := blk_frozen BK128055.out 1))
            repeat (go_quiet (fail); go_upto_region 18 with (first | ((with_reducible refine gate_dst (N := 6) rfl ?_); refine boxE 6 #[.int .u8 0, .int .u8 0] 161 ?_; intro gb128055 hg w51 BK128055 hb; have GW128055 := Aside0.mk (gsz hg hbw : w.heap.size ≤ gb128055); have GE128055 := GW128055; replace HO_0 := Aside0.mk (Kd.V_below (Kd.V_elderB (hrnV HO_0) gb128055 (Nat.le_of_eq hg.symm)) hb); replace HB := Aside0.mk (below_step hbw hb); clear hb hg; have hcz52_0 : w51.cell? ⟨gb128055, 0, none⟩ = some (.int .u8 0) := (blk_cell BK128055.out 0).trans rfl; have hcz52_1 : w51.cell? ⟨gb128055, 1, none⟩ = some (.int .u8 0) := (blk_cell BK128055.out 1).trans rfl; have hfz52_0 := blk_frozen BK128055.out 0; have hfz52_1 := blk_frozen BK128055.out 1)))
            (try simp only [Act.put, List.setIfInBounds_toArray, List.set_cons_zero, List.set_cons_succ])
            go_cut [103] (fun v103 wc => ∃ (kq : Nat) (x103_48 : Bool), v103 = .bool x103_48 ∧ Aside0 (utf8_Valid.j5 kq x0_1 x103_48 = some r) ∧ Aside0 (kq ≤ k1) ∧ Aside0 (Kd.V (Kd.int .u8) 5 wc w.heap.size (fun k_ => (P0_ k_ ∨ w.heap.size ≤ k_) ∧ k_ ≠ gb128055) (.slice (some ad128005) x0_1.length co50) x0_1) ∧ Aside0 (wc.heap[gb128055]? = some (.cells #[.int .u8 ((rd_T161 gtab1 (ji45)).f0), .int .u8 ((rd_T161 gtab1 (ji45)).f1)] 161 (0, 0))) ∧ Aside0 (Below w.heap.size w wc))
            case first =>
             have H := HC49.out
             clear HC49
             by_cases c53 : (x0_1.length : Int) < 2
             ·as_aux_lemma =>
              rw [if_pos c53] at H
              have c53b0 : decide ((x0_1.length : Int) < 2) = true := decide_eq_true c53
              have c53b1 : decide (x0_1.length < 2) = true := decide_eq_true (by omega)
              clear c53
              (first | rw [c53b0] | (simp only [i64_w, i32_w]; rw [c53b0]) | skip)
              have H' := Aside0.mk H
              clear H
              go_wp2
              repeat (go_quiet (fail); try go_wp2)
              go_meet
              case rel => exact ⟨_, (true), rfs, H', ⟨by have := HK1.out; first | omega | exact Nat.le_refl _⟩, ⟨by (with_reducible repeat (first | apply Kd.V_alloc | apply Kd.V_drewN | apply Kd.V_drew)); exact Kd.V_mono (Kd.V_far (p := ⟨gb128055, 1, none⟩) (Kd.V_far (p := ⟨gb128055, 0, none⟩) (Kd.V_mono HO_0.out (fun k_ hk => (⟨hk, hk.2⟩ : _ ∧ k_ ≠ gb128055))) (fun _ hk => hk.2) (.int .u8 ((rd_T161 gtab1 (ji45)).f0))) (fun _ hk => hk.2) (.int .u8 ((rd_T161 gtab1 (ji45)).f1))) (fun _ hk => ⟨hk.1.1, hk.1.2⟩)⟩, ⟨by refine pB ?_; refine blk_put (cs := #[.int .u8 ((rd_T161 gtab1 (ji45)).f0), .int .u8 0]) ?_ 1 _ rfl; refine pB ?_; refine blk_put (cs := #[.int .u8 0, .int .u8 0]) ?_ 0 _ rfl; refine pB ?_; exact BK128055.out⟩, ⟨hbs⟩⟩
             ·rw [if_neg c53] at H
              have c53b0 : decide ((x0_1.length : Int) < 2) = false := decide_eq_false c53
              have c53b1 : decide (x0_1.length < 2) = false := decide_eq_false (by omega)
              clear c53
              (first | rw [c53b0] | (simp only [i64_w, i32_w]; rw [c53b0]) | skip)
              by_cases c54 : 1 < (x0_1.length : Int)
              ·rw [if_pos c54] at H
               have c54b0 : decide (1 < (x0_1.length : Int)) = true := decide_eq_true c54
               have c54b1 : decide (1 < x0_1.length) = true := decide_eq_true (by omega)
               clear c54
               by_cases c55 : (rd x0_1 1) < ((rd_T161 gtab1 (ji45)).f0)
               ·as_aux_lemma =>
                rw [if_pos c55] at H
                have c55b0 : decide ((rd x0_1 1) < ((rd_T161 gtab1 (ji45)).f0)) = true := decide_eq_true c55
                clear c55
                have H' := Aside0.mk H
                clear H
                have p128056 : 0 ≤ (1 : Int) := (by omega)
                have q128056 : 1 < (x0_1.length : Int) := odt
                obtain ⟨ad128056, e128056, hx128056_0⟩ := Kd.at_int (Kd.V_reads' HO_0.out).2.2 1 p128056 q128056
                obtain rfl : ad128005 = ad128056 := (by injection e128056)
                (try simp only [show (1 : Int).toNat = 1 from rfl, Nat.reduceMul, Nat.reduceEqDiff, Go.Addr.add, ↓reduceIte] at hx128056_0)
                have qi128056 : (1 < x0_1.length) = True := eq_true (by omega)
                (try rw [show ((1 : Int)).toNat = 1 from rfl] at hx128056_0)
                have hn128056_0 : ad128005.block ≠ gb128055 := Kd.foot_ne (fun W_ hk_ => (Kd.V_at HO_0.out).2.2 W_ (fun k_ hk hlt_ => hk_.2 k_ hlt_ (hk.2) (by simp))) (by omega) (by decide)
                have hn128056_1 : ad128005.block ≠ gb128055 := Kd.foot_ne (fun W_ hk_ => (Kd.V_at HO_0.out).2.2 W_ (fun k_ hk hlt_ => hk_.2 k_ hlt_ (hk.2) (by simp))) (by omega) (by decide)
                replace hx128056_0 := (cell_far (p := ⟨gb128055, 0, none⟩) (by first | (rw [add_block]; exact hn128056_0) | (show (Addr.add _ _).block ≠ _; rw [add_block]; exact hn128056_0) | exact hn128056_0) (.int .u8 ((rd_T161 gtab1 (ji45)).f0))).trans hx128056_0
                replace hx128056_0 := (cell_far (p := ⟨gb128055, 1, none⟩) (by first | (rw [add_block]; exact hn128056_1) | (show (Addr.add _ _).block ≠ _; rw [add_block]; exact hn128056_1) | exact hn128056_1) (.int .u8 ((rd_T161 gtab1 (ji45)).f1))).trans hx128056_0
                (try have hy128056_0 := fun (n_ : Nat) => (show ((((w51.drewN n_).setCell ⟨gb128055, 0, none⟩ (.int .u8 ((rd_T161 gtab1 (ji45)).f0))).setCell ⟨gb128055, 1, none⟩ (.int .u8 ((rd_T161 gtab1 (ji45)).f1)))).cell? _ = some _ from hx128056_0))
                clear hn128056_0
                clear hn128056_1
                replace p128056 := eq_true p128056
                replace q128056 := eq_true q128056
                have hcz56_0 : w51.cell? ⟨gb128055, 0, none⟩ = some (.int .u8 0) := (blk_cell BK128055.out 0).trans rfl
                have hcz56_1 : w51.cell? ⟨gb128055, 1, none⟩ = some (.int .u8 0) := (blk_cell BK128055.out 1).trans rfl
                have hfz56_0 := blk_frozen BK128055.out 0
                have hfz56_1 := blk_frozen BK128055.out 1
                go_wp2
                repeat (go_quiet (fail); try go_wp2)
                go_meet
                case rel => exact ⟨_, (true), rfs, H', ⟨by have := HK1.out; first | omega | exact Nat.le_refl _⟩, ⟨by (with_reducible repeat (first | apply Kd.V_alloc | apply Kd.V_drewN | apply Kd.V_drew)); exact Kd.V_mono (Kd.V_far (p := ⟨gb128055, 1, none⟩) (Kd.V_far (p := ⟨gb128055, 0, none⟩) (Kd.V_mono HO_0.out (fun k_ hk => (⟨hk, hk.2⟩ : _ ∧ k_ ≠ gb128055))) (fun _ hk => hk.2) (.int .u8 ((rd_T161 gtab1 (ji45)).f0))) (fun _ hk => hk.2) (.int .u8 ((rd_T161 gtab1 (ji45)).f1))) (fun _ hk => ⟨hk.1.1, hk.1.2⟩)⟩, ⟨by refine pB ?_; refine blk_put (cs := #[.int .u8 ((rd_T161 gtab1 (ji45)).f0), .int .u8 0]) ?_ 1 _ rfl; refine pB ?_; refine blk_put (cs := #[.int .u8 0, .int .u8 0]) ?_ 0 _ rfl; refine pB ?_; exact BK128055.out⟩, ⟨hbs⟩⟩
               ·as_aux_lemma =>
                rw [if_neg c55] at H
                have c55b0 : decide ((rd x0_1 1) < ((rd_T161 gtab1 (ji45)).f0)) = false := decide_eq_false c55
                clear c55
                have H' := Aside0.mk H
                clear H
                have p128056 : 0 ≤ (1 : Int) := (by omega)
                have q128056 : 1 < (x0_1.length : Int) := odt
                obtain ⟨ad128056, e128056, hx128056_0⟩ := Kd.at_int (Kd.V_reads' HO_0.out).2.2 1 p128056 q128056
                obtain rfl : ad128005 = ad128056 := (by injection e128056)
                (try simp only [show (1 : Int).toNat = 1 from rfl, Nat.reduceMul, Nat.reduceEqDiff, Go.Addr.add, ↓reduceIte] at hx128056_0)
                have qi128056 : (1 < x0_1.length) = True := eq_true (by omega)
                (try rw [show ((1 : Int)).toNat = 1 from rfl] at hx128056_0)
                have hn128056_0 : ad128005.block ≠ gb128055 := Kd.foot_ne (fun W_ hk_ => (Kd.V_at HO_0.out).2.2 W_ (fun k_ hk hlt_ => hk_.2 k_ hlt_ (hk.2) (by simp))) (by omega) (by decide)
                have hn128056_1 : ad128005.block ≠ gb128055 := Kd.foot_ne (fun W_ hk_ => (Kd.V_at HO_0.out).2.2 W_ (fun k_ hk hlt_ => hk_.2 k_ hlt_ (hk.2) (by simp))) (by omega) (by decide)
                replace hx128056_0 := (cell_far (p := ⟨gb128055, 0, none⟩) (by first | (rw [add_block]; exact hn128056_0) | (show (Addr.add _ _).block ≠ _; rw [add_block]; exact hn128056_0) | exact hn128056_0) (.int .u8 ((rd_T161 gtab1 (ji45)).f0))).trans hx128056_0
                replace hx128056_0 := (cell_far (p := ⟨gb128055, 1, none⟩) (by first | (rw [add_block]; exact hn128056_1) | (show (Addr.add _ _).block ≠ _; rw [add_block]; exact hn128056_1) | exact hn128056_1) (.int .u8 ((rd_T161 gtab1 (ji45)).f1))).trans hx128056_0
                (try have hy128056_0 := fun (n_ : Nat) => (show ((((w51.drewN n_).setCell ⟨gb128055, 0, none⟩ (.int .u8 ((rd_T161 gtab1 (ji45)).f0))).setCell ⟨gb128055, 1, none⟩ (.int .u8 ((rd_T161 gtab1 (ji45)).f1)))).cell? _ = some _ from hx128056_0))
                clear hn128056_0
                clear hn128056_1
                replace p128056 := eq_true p128056
                replace q128056 := eq_true q128056
                have hcz57_0 : w51.cell? ⟨gb128055, 0, none⟩ = some (.int .u8 0) := (blk_cell BK128055.out 0).trans rfl
                have hcz57_1 : w51.cell? ⟨gb128055, 1, none⟩ = some (.int .u8 0) := (blk_cell BK128055.out 1).trans rfl
                have hfz57_0 := blk_frozen BK128055.out 0
                have hfz57_1 := blk_frozen BK128055.out 1
                have p128057 : 0 ≤ (1 : Int) := (by omega)
                have q128057 : 1 < (x0_1.length : Int) := odt
                obtain ⟨ad128057, e128057, hx128057_0⟩ := Kd.at_int (Kd.V_reads' HO_0.out).2.2 1 p128057 q128057
                obtain rfl : ad128005 = ad128057 := (by injection e128057)
                (try simp only [show (1 : Int).toNat = 1 from rfl, Nat.reduceMul, Nat.reduceEqDiff, Go.Addr.add, ↓reduceIte] at hx128057_0)
                have qi128057 : (1 < x0_1.length) = True := eq_true (by omega)
                (try rw [show ((1 : Int)).toNat = 1 from rfl] at hx128057_0)
                have hn128057_0 : ad128005.block ≠ gb128055 := Kd.foot_ne (fun W_ hk_ => (Kd.V_at HO_0.out).2.2 W_ (fun k_ hk hlt_ => hk_.2 k_ hlt_ (hk.2) (by simp))) (by omega) (by decide)
                have hn128057_1 : ad128005.block ≠ gb128055 := Kd.foot_ne (fun W_ hk_ => (Kd.V_at HO_0.out).2.2 W_ (fun k_ hk hlt_ => hk_.2 k_ hlt_ (hk.2) (by simp))) (by omega) (by decide)
                replace hx128057_0 := (cell_far (p := ⟨gb128055, 0, none⟩) (by first | (rw [add_block]; exact hn128057_0) | (show (Addr.add _ _).block ≠ _; rw [add_block]; exact hn128057_0) | exact hn128057_0) (.int .u8 ((rd_T161 gtab1 (ji45)).f0))).trans hx128057_0
                replace hx128057_0 := (cell_far (p := ⟨gb128055, 1, none⟩) (by first | (rw [add_block]; exact hn128057_1) | (show (Addr.add _ _).block ≠ _; rw [add_block]; exact hn128057_1) | exact hn128057_1) (.int .u8 ((rd_T161 gtab1 (ji45)).f1))).trans hx128057_0
                (try have hy128057_0 := fun (n_ : Nat) => (show ((((w51.drewN n_).setCell ⟨gb128055, 0, none⟩ (.int .u8 ((rd_T161 gtab1 (ji45)).f0))).setCell ⟨gb128055, 1, none⟩ (.int .u8 ((rd_T161 gtab1 (ji45)).f1)))).cell? _ = some _ from hx128057_0))
                clear hn128057_0
                clear hn128057_1
                replace p128057 := eq_true p128057
                replace q128057 := eq_true q128057
                go_wp2
                repeat (go_quiet (fail); try go_wp2)
                go_meet
                case rel => exact ⟨_, (decide (((rd_T161 gtab1 (ji45)).f1) < (rd x0_1 1))), (by first | rfl | (simp; done) | (simp only [← hji45] <;> (first | rfl | simp)) | (simp [*]; done)), H', ⟨by have := HK1.out; first | omega | exact Nat.le_refl _⟩, ⟨by (with_reducible repeat (first | apply Kd.V_alloc | apply Kd.V_drewN | apply Kd.V_drew)); exact Kd.V_mono (Kd.V_far (p := ⟨gb128055, 1, none⟩) (Kd.V_far (p := ⟨gb128055, 0, none⟩) (Kd.V_mono HO_0.out (fun k_ hk => (⟨hk, hk.2⟩ : _ ∧ k_ ≠ gb128055))) (fun _ hk => hk.2) (.int .u8 ((rd_T161 gtab1 (ji45)).f0))) (fun _ hk => hk.2) (.int .u8 ((rd_T161 gtab1 (ji45)).f1))) (fun _ hk => ⟨hk.1.1, hk.1.2⟩)⟩, ⟨by refine pB ?_; refine blk_put (cs := #[.int .u8 ((rd_T161 gtab1 (ji45)).f0), .int .u8 0]) ?_ 1 _ rfl; refine pB ?_; refine blk_put (cs := #[.int .u8 0, .int .u8 0]) ?_ 0 _ rfl; refine pB ?_; exact BK128055.out⟩, ⟨hbs⟩⟩
              ·rw [if_neg c54] at H
               exact absurd H (by simp)
            case rest =>
             clear HC49
             try clear c1
             try clear p1
             try clear q1
             try clear hx1
             try clear qi1
             try clear c2
             try clear c2b0
             try clear c2b1
             try clear p2
             try clear q2
             try clear c3
             try clear q3
             try clear c4
             try clear c4b0
             try clear c4b1
             try clear q4
             try clear c5
             try clear c5b0
             try clear c5b1
             try clear c6
             try clear c6b0
             try clear p6
             try clear c7
             try clear c7b0
             try clear c7b1
             try clear c10
             try clear q10
             try clear c11
             try clear c11b0
             try clear c11b1
             try clear c12
             try clear p12
             try clear q12
             try clear hx12
             try clear qi12
             try clear c13
             try clear c14
             try clear c14b0
             try clear c14b1
             try clear c16
             try clear q16
             try clear c17
             try clear c17b0
             try clear c17b1
             try clear c19
             try clear c19b0
             try clear c19b1
             try clear c21
             try clear q21
             try clear c22
             try clear c23
             try clear c23b0
             try clear c23b1
             try clear c24
             try clear q24
             try clear c26
             try clear c26b0
             try clear c26b1
             try clear c28
             try clear c28b0
             try clear c28b1
             try clear c30
             try clear c30b0
             try clear c30b1
             try clear c32
             try clear c32b0
             try clear c32b1
             try clear c35
             try clear q35
             try clear c36
             try clear q36
             try clear c37
             try clear q37
             try clear c39
             try clear c40
             try clear c40b0
             try clear c40b1
             try clear c41
             try clear q41
             try clear c43
             try clear c43b0
             try clear c44
             try clear c44b0
             try clear c46
             try clear c46b0
             try clear c47
             try clear c47b0
             try clear c48
             try clear c48b0
             try clear c48b1
             try clear c53
             try clear c53b0
             try clear c53b1
             try clear c54
             try clear c54b0
             try clear c54b1
             try clear c55
             try clear c55b0
             try clear hcz52_0
             try clear hcz52_1
             try clear hcz56_0
             try clear hcz56_1
             try clear hcz57_0
             try clear hcz57_1
             try clear hfz52_0
             try clear hfz52_1
             try clear hfz56_0
             try clear hfz56_1
             try clear hfz57_0
             try clear hfz57_1
             try clear hx128005_0
             try clear hx128053_0
             try clear hx128054_0
             try clear hx128054_1
             try clear hx128056_0
             try clear hx128057_0
             try clear p1
             try clear p12
             try clear p128005
             try clear p128053
             try clear p128054
             try clear p128056
             try clear p128057
             try clear p2
             try clear q1
             try clear q10
             try clear q12
             try clear q128005
             try clear q128053
             try clear q128054
             try clear q128056
             try clear q128057
             try clear q16
             try clear q2
             try clear q21
             try clear q24
             try clear q3
             try clear q35
             try clear q36
             try clear q37
             try clear q41
             obtain ⟨kq, x103_48, rfl, HA, HJ48, HO_0, BK128055, HB⟩ := hcut
             cases kq with
             | zero => exact absurd HA.out (by simp [utf8_Valid.j5])
             | succ kj48 =>
              have H := HA.out
              clear HA
              simp only [utf8_Valid.j5] at H
              by_cases c58 : x103_48 = true
              ·as_aux_lemma =>
               subst c58
               have H1 : (some false) = some r := by rw [if_pos rfl] at H; exact H
               clear H
               have H := H1
               clear H1
               obtain rfl := Option.some.inj H
               go_wp2
               repeat (go_quiet (fail); try go_wp2)
               go_ret
               exact ⟨by first | rfl | (simp [errW_none, errW_some] <;> rfl) | (simp only [← hji45]; first | rfl | (simp [errW_none, errW_some] <;> rfl)) | (simp [*, errW_none, errW_some] <;> rfl), hbs⟩
              ·as_aux_lemma =>
               replace c58 := Bool.eq_false_iff.mpr c58
               subst c58
               have H1 : (if 2 ≤ (x0_1.length : Int) then (utf8_Valid.l0 kj48 (x0_1.drop 2)) else (none)) = some r := by rw [if_neg (show ¬ (false = true) by decide)] at H; exact H
               clear H
               have H := H1
               clear H1
               by_cases c59 : 2 ≤ (x0_1.length : Int)
               ·rw [if_pos c59] at H
                have c59b0 := eq_true c59
                have c59b1 : decide (2 ≤ (x0_1.length : Int)) = true := decide_eq_true c59
                clear c59
                obtain ⟨y128058, hy128058⟩ : ∃ y_ : List Int, y_ = (x0_1.drop 2) := ⟨_, rfl⟩
                replace H : (utf8_Valid.l0 kj48 y128058) = some r := repH hy128058 H
                have Ny128058 := Aside0.mk hy128058
                clear hy128058
                have H' := Aside0.mk H
                clear H
                have q60 : (2 : Int) ≤ ((x0_1.length : Int) : Int) := odt
                obtain ⟨i060, hi060, _, hsz60, _⟩ := info_parts info5
                have hroom60 : x0_1.length ≤ co50 := (Kd.V_reads' HO_0.out).2.1
                have hC60 : Kd.F (Kd.int .u8) _ _ (some ad128005) x0_1.length x0_1 := (Kd.V_at (base := w.heap.size) HO_0.out).2.2
                have hcut60 := cut_from (P := Tryd.prog) 22 5 .i64 Tryd.underlying22 hi060 1 hsz60 (some ad128005) x0_1.length co50 2 (by omega) q60
                have hr60 := Kd.F_cut (m := (2 : Int).toNat) (c := co50) hC60 (by omega) hroom60
                obtain ⟨A60, hA60⟩ : ∃ A1_, A1_ = (if co50 = (2 : Int).toNat then (some ad128005) else ((some ad128005) : Option Addr).map (·.add ((2 : Int).toNat * 1))) := ⟨_, rfl⟩
                obtain ⟨c60, hc60⟩ : ∃ c1_, c1_ = co50 - (2 : Int).toNat := ⟨_, rfl⟩
                have hy60 : y128058.length = x0_1.length - (2 : Int).toNat := (by rw [Ny128058.out, List.length_drop] <;> omega)
                rw [show (x0_1).drop (2 : Int).toNat = y128058 from Ny128058.out.symm] at hr60
                replace hr60 : Kd.F (Kd.int .u8) _ _ A60 y128058.length y128058 := (by rw [hA60]; exact hr60)
                rw [← hy60, ← hA60, ← hc60] at hcut60
                have HO128062 := Aside0.mk (show Kd.V (Kd.int .u8) 5 _ w.heap.size _ (.slice A60 y128058.length c60) y128058 from Kd.V_mk (by rw [hy60, hc60]; exact Nat.sub_le_sub_right hroom60 _) hr60)
                have HC128062 := Aside0.mk (show y128058.length ≤ c60 from by rw [hy60, hc60]; exact Nat.sub_le_sub_right hroom60 _)
                clear hr60 hC60 hroom60 hi060 hsz60 hc60
                have KY60 := Aside0.mk hy60
                have KA60 := Aside0.mk hA60
                clear hy60 hA60
                replace q60 := eq_true q60
                go_wp2
                repeat (go_quiet (fail); try go_wp2)
                go_roundg kj48
                case measure => have := HK1.out; have := HJ48.out; omega
                case rel => exact ⟨(y128058), H', ⟨by have := HK1.out; have := HJ48.out; omega⟩, ⟨by (with_reducible repeat (first | apply Kd.V_alloc | apply Kd.V_drewN | apply Kd.V_drew)); exact Kd.V_mono HO128062.out (fun _ hk => hk.1)⟩, ⟨hbs⟩⟩
               ·rw [if_neg c59] at H
                exact absurd H (by simp)
           ·rw [if_neg c48] at H
            have c48b0 : ((wrap64 (Go.bits .and .u8 (rd gtab0 (rd x0_1 0)) 7)) == 2) = false := beq_eq_false_iff_ne.mpr c48
            have c48b1 : ((wrap64 (Go.bits .and .u8 (rd gtab0 (rd x0_1 0)) 7)) != 2) = true := bne_iff_ne.mpr c48
            by_cases c61 : (wrap64 (Go.bits .and .u8 (rd gtab0 (rd x0_1 0)) 7)) = 3
            ·rw [if_pos c61] at H
             have c61b0 : ((wrap64 (Go.bits .and .u8 (rd gtab0 (rd x0_1 0)) 7)) == 3) = true := beq_iff_eq.mpr c61
             have c61b1 : ((wrap64 (Go.bits .and .u8 (rd gtab0 (rd x0_1 0)) 7)) != 3) = false := bne_eq_false_iff_eq.mpr c61
             clear c61
             have HC62 := Aside0.mk H
             clear H
             obtain ⟨Ao63, co63, eo63⟩ := Kd.V_slice HO_0.out
             subst eo63
             have p128005 : 0 ≤ (0 : Int) := (by omega)
             have q128005 : 0 < (x0_1.length : Int) := odt
             obtain ⟨ad128005, e128005, hx128005_0⟩ := Kd.at_int (Kd.V_reads' HO_0.out).2.2 0 p128005 q128005
             cases e128005
             have qi128005 : (0 < x0_1.length) = True := eq_true (by omega)
             (try rw [show ((0 : Int)).toNat = 0 from rfl] at hx128005_0)
             (try rw [Addr.add_zero'] at hx128005_0)
             replace p128005 := eq_true p128005
             replace q128005 := eq_true q128005
             have p128053 : 0 ≤ ((rd x0_1 0) : Int) := odt
             have q128053 : (rd x0_1 0) < (256 : Int) := odt
             have hx128053_0 := GTab.at0 (show GTab wr from GTab.below hG hbw) ((rd x0_1 0)) p128053 q128053
             replace p128053 := eq_true p128053
             replace q128053 := eq_true q128053
             have p128054 : 0 ≤ ((ji45) : Int) := odt
             have q128054 : (ji45) < (16 : Int) := odt
             have hx128054_0 := GTab.at1_0 (show GTab wr from GTab.below hG hbw) ((ji45)) p128054 q128054
             have hx128054_1 := GTab.at1_1 (show GTab wr from GTab.below hG hbw) ((ji45)) p128054 q128054
             replace p128054 := eq_true p128054
             replace q128054 := eq_true q128054
             go_upto_region 22 with (first | ((with_reducible refine gate_dst (N := 6) rfl ?_); refine boxE 6 #[.int .u8 0, .int .u8 0] 161 ?_; intro gb128055 hg w64 BK128055 hb; have GW128055 := Aside0.mk (gsz hg hbw : w.heap.size ≤ gb128055); have GE128055 := GW128055; replace HO_0 := Aside0.mk (Kd.V_below (Kd.V_elderB (hrnV HO_0) gb128055 (Nat.le_of_eq hg.symm)) hb); replace HB := Aside0.mk (below_step hbw hb); clear hb hg; have hcz65_0 : w64.cell? ⟨gb128055, 0, none⟩ = some (.int .u8 0) := (blk_cell BK128055.out 0).trans rfl; have hcz65_1 : w64.cell? ⟨gb128055, 1, none⟩ = some (.int .u8 0) := (blk_cell BK128055.out 1).trans rfl; have hfz65_0 := blk_frozen BK128055.out 0; have hfz65_1 := blk_frozen BK128055.out 1))
             repeat (go_quiet (fail); go_upto_region 22 with (first | ((with_reducible refine gate_dst (N := 6) rfl ?_); refine boxE 6 #[.int .u8 0, .int .u8 0] 161 ?_; intro gb128055 hg w64 BK128055 hb; have GW128055 := Aside0.mk (gsz hg hbw : w.heap.size ≤ gb128055); have GE128055 := GW128055; replace HO_0 := Aside0.mk (Kd.V_below (Kd.V_elderB (hrnV HO_0) gb128055 (Nat.le_of_eq hg.symm)) hb); replace HB := Aside0.mk (below_step hbw hb); clear hb hg; have hcz65_0 : w64.cell? ⟨gb128055, 0, none⟩ = some (.int .u8 0) := (blk_cell BK128055.out 0).trans rfl; have hcz65_1 : w64.cell? ⟨gb128055, 1, none⟩ = some (.int .u8 0) := (blk_cell BK128055.out 1).trans rfl; have hfz65_0 := blk_frozen BK128055.out 0; have hfz65_1 := blk_frozen BK128055.out 1)))
             (try simp only [Act.put, List.setIfInBounds_toArray, List.set_cons_zero, List.set_cons_succ])
             go_cut [138] (fun v138 wc => ∃ (kq : Nat) (x138_61 : Bool), v138 = .bool x138_61 ∧ Aside0 (utf8_Valid.j6 kq x0_1 x138_61 = some r) ∧ Aside0 (kq ≤ k1) ∧ Aside0 (Kd.V (Kd.int .u8) 5 wc w.heap.size (fun k_ => (P0_ k_ ∨ w.heap.size ≤ k_) ∧ k_ ≠ gb128055) (.slice (some ad128005) x0_1.length co63) x0_1) ∧ Aside0 (wc.heap[gb128055]? = some (.cells #[.int .u8 ((rd_T161 gtab1 (ji45)).f0), .int .u8 ((rd_T161 gtab1 (ji45)).f1)] 161 (0, 0))) ∧ Aside0 (Below w.heap.size w wc))
             case first =>
              have H := HC62.out
              clear HC62
              by_cases c66 : (x0_1.length : Int) < 3
              ·as_aux_lemma =>
               rw [if_pos c66] at H
               have c66b0 : decide ((x0_1.length : Int) < 3) = true := decide_eq_true c66
               have c66b1 : decide (x0_1.length < 3) = true := decide_eq_true (by omega)
               clear c66
               (first | rw [c66b0] | (simp only [i64_w, i32_w]; rw [c66b0]) | skip)
               have H' := Aside0.mk H
               clear H
               go_wp2
               repeat (go_quiet (fail); try go_wp2)
               go_meet
               case rel => exact ⟨_, (true), rfs, H', ⟨by have := HK1.out; first | omega | exact Nat.le_refl _⟩, ⟨by (with_reducible repeat (first | apply Kd.V_alloc | apply Kd.V_drewN | apply Kd.V_drew)); exact Kd.V_mono (Kd.V_far (p := ⟨gb128055, 1, none⟩) (Kd.V_far (p := ⟨gb128055, 0, none⟩) (Kd.V_mono HO_0.out (fun k_ hk => (⟨hk, hk.2⟩ : _ ∧ k_ ≠ gb128055))) (fun _ hk => hk.2) (.int .u8 ((rd_T161 gtab1 (ji45)).f0))) (fun _ hk => hk.2) (.int .u8 ((rd_T161 gtab1 (ji45)).f1))) (fun _ hk => ⟨hk.1.1, hk.1.2⟩)⟩, ⟨by refine pB ?_; refine blk_put (cs := #[.int .u8 ((rd_T161 gtab1 (ji45)).f0), .int .u8 0]) ?_ 1 _ rfl; refine pB ?_; refine blk_put (cs := #[.int .u8 0, .int .u8 0]) ?_ 0 _ rfl; refine pB ?_; exact BK128055.out⟩, ⟨hbs⟩⟩
              ·rw [if_neg c66] at H
               have c66b0 : decide ((x0_1.length : Int) < 3) = false := decide_eq_false c66
               have c66b1 : decide (x0_1.length < 3) = false := decide_eq_false (by omega)
               clear c66
               (first | rw [c66b0] | (simp only [i64_w, i32_w]; rw [c66b0]) | skip)
               by_cases c67 : 1 < (x0_1.length : Int)
               ·rw [if_pos c67] at H
                have c67b0 : decide (1 < (x0_1.length : Int)) = true := decide_eq_true c67
                have c67b1 : decide (1 < x0_1.length) = true := decide_eq_true (by omega)
                clear c67
                by_cases c68 : (rd x0_1 1) < ((rd_T161 gtab1 (ji45)).f0)
                ·as_aux_lemma =>
                 rw [if_pos c68] at H
                 have c68b0 : decide ((rd x0_1 1) < ((rd_T161 gtab1 (ji45)).f0)) = true := decide_eq_true c68
                 clear c68
                 have H' := Aside0.mk H
                 clear H
                 have p128063 : 0 ≤ (1 : Int) := (by omega)
                 have q128063 : 1 < (x0_1.length : Int) := odt
                 obtain ⟨ad128063, e128063, hx128063_0⟩ := Kd.at_int (Kd.V_reads' HO_0.out).2.2 1 p128063 q128063
                 obtain rfl : ad128005 = ad128063 := (by injection e128063)
                 (try simp only [show (1 : Int).toNat = 1 from rfl, Nat.reduceMul, Nat.reduceEqDiff, Go.Addr.add, ↓reduceIte] at hx128063_0)
                 have qi128063 : (1 < x0_1.length) = True := eq_true (by omega)
                 (try rw [show ((1 : Int)).toNat = 1 from rfl] at hx128063_0)
                 have hn128063_0 : ad128005.block ≠ gb128055 := Kd.foot_ne (fun W_ hk_ => (Kd.V_at HO_0.out).2.2 W_ (fun k_ hk hlt_ => hk_.2 k_ hlt_ (hk.2) (by simp))) (by omega) (by decide)
                 have hn128063_1 : ad128005.block ≠ gb128055 := Kd.foot_ne (fun W_ hk_ => (Kd.V_at HO_0.out).2.2 W_ (fun k_ hk hlt_ => hk_.2 k_ hlt_ (hk.2) (by simp))) (by omega) (by decide)
                 replace hx128063_0 := (cell_far (p := ⟨gb128055, 0, none⟩) (by first | (rw [add_block]; exact hn128063_0) | (show (Addr.add _ _).block ≠ _; rw [add_block]; exact hn128063_0) | exact hn128063_0) (.int .u8 ((rd_T161 gtab1 (ji45)).f0))).trans hx128063_0
                 replace hx128063_0 := (cell_far (p := ⟨gb128055, 1, none⟩) (by first | (rw [add_block]; exact hn128063_1) | (show (Addr.add _ _).block ≠ _; rw [add_block]; exact hn128063_1) | exact hn128063_1) (.int .u8 ((rd_T161 gtab1 (ji45)).f1))).trans hx128063_0
                 (try have hy128063_0 := fun (n_ : Nat) => (show ((((w64.drewN n_).setCell ⟨gb128055, 0, none⟩ (.int .u8 ((rd_T161 gtab1 (ji45)).f0))).setCell ⟨gb128055, 1, none⟩ (.int .u8 ((rd_T161 gtab1 (ji45)).f1)))).cell? _ = some _ from hx128063_0))
                 clear hn128063_0
                 clear hn128063_1
                 replace p128063 := eq_true p128063
                 replace q128063 := eq_true q128063
                 have hcz69_0 : w64.cell? ⟨gb128055, 0, none⟩ = some (.int .u8 0) := (blk_cell BK128055.out 0).trans rfl
                 have hcz69_1 : w64.cell? ⟨gb128055, 1, none⟩ = some (.int .u8 0) := (blk_cell BK128055.out 1).trans rfl
                 have hfz69_0 := blk_frozen BK128055.out 0
                 have hfz69_1 := blk_frozen BK128055.out 1
                 go_wp2
                 repeat (go_quiet (fail); try go_wp2)
                 go_meet
                 case rel => exact ⟨_, (true), rfs, H', ⟨by have := HK1.out; first | omega | exact Nat.le_refl _⟩, ⟨by (with_reducible repeat (first | apply Kd.V_alloc | apply Kd.V_drewN | apply Kd.V_drew)); exact Kd.V_mono (Kd.V_far (p := ⟨gb128055, 1, none⟩) (Kd.V_far (p := ⟨gb128055, 0, none⟩) (Kd.V_mono HO_0.out (fun k_ hk => (⟨hk, hk.2⟩ : _ ∧ k_ ≠ gb128055))) (fun _ hk => hk.2) (.int .u8 ((rd_T161 gtab1 (ji45)).f0))) (fun _ hk => hk.2) (.int .u8 ((rd_T161 gtab1 (ji45)).f1))) (fun _ hk => ⟨hk.1.1, hk.1.2⟩)⟩, ⟨by refine pB ?_; refine blk_put (cs := #[.int .u8 ((rd_T161 gtab1 (ji45)).f0), .int .u8 0]) ?_ 1 _ rfl; refine pB ?_; refine blk_put (cs := #[.int .u8 0, .int .u8 0]) ?_ 0 _ rfl; refine pB ?_; exact BK128055.out⟩, ⟨hbs⟩⟩
                ·rw [if_neg c68] at H
                 have c68b0 : decide ((rd x0_1 1) < ((rd_T161 gtab1 (ji45)).f0)) = false := decide_eq_false c68
                 clear c68
                 by_cases c70 : ((rd_T161 gtab1 (ji45)).f1) < (rd x0_1 1)
                 ·as_aux_lemma =>
                  rw [if_pos c70] at H
                  have c70b0 : decide (((rd_T161 gtab1 (ji45)).f1) < (rd x0_1 1)) = true := decide_eq_true c70
                  clear c70
                  have H' := Aside0.mk H
                  clear H
                  have p128063 : 0 ≤ (1 : Int) := (by omega)
                  have q128063 : 1 < (x0_1.length : Int) := odt
                  obtain ⟨ad128063, e128063, hx128063_0⟩ := Kd.at_int (Kd.V_reads' HO_0.out).2.2 1 p128063 q128063
                  obtain rfl : ad128005 = ad128063 := (by injection e128063)
                  (try simp only [show (1 : Int).toNat = 1 from rfl, Nat.reduceMul, Nat.reduceEqDiff, Go.Addr.add, ↓reduceIte] at hx128063_0)
                  have qi128063 : (1 < x0_1.length) = True := eq_true (by omega)
                  (try rw [show ((1 : Int)).toNat = 1 from rfl] at hx128063_0)
                  have hn128063_0 : ad128005.block ≠ gb128055 := Kd.foot_ne (fun W_ hk_ => (Kd.V_at HO_0.out).2.2 W_ (fun k_ hk hlt_ => hk_.2 k_ hlt_ (hk.2) (by simp))) (by omega) (by decide)
                  have hn128063_1 : ad128005.block ≠ gb128055 := Kd.foot_ne (fun W_ hk_ => (Kd.V_at HO_0.out).2.2 W_ (fun k_ hk hlt_ => hk_.2 k_ hlt_ (hk.2) (by simp))) (by omega) (by decide)
                  replace hx128063_0 := (cell_far (p := ⟨gb128055, 0, none⟩) (by first | (rw [add_block]; exact hn128063_0) | (show (Addr.add _ _).block ≠ _; rw [add_block]; exact hn128063_0) | exact hn128063_0) (.int .u8 ((rd_T161 gtab1 (ji45)).f0))).trans hx128063_0
                  replace hx128063_0 := (cell_far (p := ⟨gb128055, 1, none⟩) (by first | (rw [add_block]; exact hn128063_1) | (show (Addr.add _ _).block ≠ _; rw [add_block]; exact hn128063_1) | exact hn128063_1) (.int .u8 ((rd_T161 gtab1 (ji45)).f1))).trans hx128063_0
                  (try have hy128063_0 := fun (n_ : Nat) => (show ((((w64.drewN n_).setCell ⟨gb128055, 0, none⟩ (.int .u8 ((rd_T161 gtab1 (ji45)).f0))).setCell ⟨gb128055, 1, none⟩ (.int .u8 ((rd_T161 gtab1 (ji45)).f1)))).cell? _ = some _ from hx128063_0))
                  clear hn128063_0
                  clear hn128063_1
                  replace p128063 := eq_true p128063
                  replace q128063 := eq_true q128063
                  have hcz71_0 : w64.cell? ⟨gb128055, 0, none⟩ = some (.int .u8 0) := (blk_cell BK128055.out 0).trans rfl
                  have hcz71_1 : w64.cell? ⟨gb128055, 1, none⟩ = some (.int .u8 0) := (blk_cell BK128055.out 1).trans rfl
                  have hfz71_0 := blk_frozen BK128055.out 0
                  have hfz71_1 := blk_frozen BK128055.out 1
                  have p128064 : 0 ≤ (1 : Int) := (by omega)
                  have q128064 : 1 < (x0_1.length : Int) := odt
                  obtain ⟨ad128064, e128064, hx128064_0⟩ := Kd.at_int (Kd.V_reads' HO_0.out).2.2 1 p128064 q128064
                  obtain rfl : ad128005 = ad128064 := (by injection e128064)
                  (try simp only [show (1 : Int).toNat = 1 from rfl, Nat.reduceMul, Nat.reduceEqDiff, Go.Addr.add, ↓reduceIte] at hx128064_0)
                  have qi128064 : (1 < x0_1.length) = True := eq_true (by omega)
                  (try rw [show ((1 : Int)).toNat = 1 from rfl] at hx128064_0)
                  have hn128064_0 : ad128005.block ≠ gb128055 := Kd.foot_ne (fun W_ hk_ => (Kd.V_at HO_0.out).2.2 W_ (fun k_ hk hlt_ => hk_.2 k_ hlt_ (hk.2) (by simp))) (by omega) (by decide)
                  have hn128064_1 : ad128005.block ≠ gb128055 := Kd.foot_ne (fun W_ hk_ => (Kd.V_at HO_0.out).2.2 W_ (fun k_ hk hlt_ => hk_.2 k_ hlt_ (hk.2) (by simp))) (by omega) (by decide)
                  replace hx128064_0 := (cell_far (p := ⟨gb128055, 0, none⟩) (by first | (rw [add_block]; exact hn128064_0) | (show (Addr.add _ _).block ≠ _; rw [add_block]; exact hn128064_0) | exact hn128064_0) (.int .u8 ((rd_T161 gtab1 (ji45)).f0))).trans hx128064_0
                  replace hx128064_0 := (cell_far (p := ⟨gb128055, 1, none⟩) (by first | (rw [add_block]; exact hn128064_1) | (show (Addr.add _ _).block ≠ _; rw [add_block]; exact hn128064_1) | exact hn128064_1) (.int .u8 ((rd_T161 gtab1 (ji45)).f1))).trans hx128064_0
                  (try have hy128064_0 := fun (n_ : Nat) => (show ((((w64.drewN n_).setCell ⟨gb128055, 0, none⟩ (.int .u8 ((rd_T161 gtab1 (ji45)).f0))).setCell ⟨gb128055, 1, none⟩ (.int .u8 ((rd_T161 gtab1 (ji45)).f1)))).cell? _ = some _ from hx128064_0))
                  clear hn128064_0
                  clear hn128064_1
                  replace p128064 := eq_true p128064
                  replace q128064 := eq_true q128064
                  go_wp2
                  repeat (go_quiet (fail); try go_wp2)
                  go_meet
                  case rel => exact ⟨_, (true), rfs, H', ⟨by have := HK1.out; first | omega | exact Nat.le_refl _⟩, ⟨by (with_reducible repeat (first | apply Kd.V_alloc | apply Kd.V_drewN | apply Kd.V_drew)); exact Kd.V_mono (Kd.V_far (p := ⟨gb128055, 1, none⟩) (Kd.V_far (p := ⟨gb128055, 0, none⟩) (Kd.V_mono HO_0.out (fun k_ hk => (⟨hk, hk.2⟩ : _ ∧ k_ ≠ gb128055))) (fun _ hk => hk.2) (.int .u8 ((rd_T161 gtab1 (ji45)).f0))) (fun _ hk => hk.2) (.int .u8 ((rd_T161 gtab1 (ji45)).f1))) (fun _ hk => ⟨hk.1.1, hk.1.2⟩)⟩, ⟨by refine pB ?_; refine blk_put (cs := #[.int .u8 ((rd_T161 gtab1 (ji45)).f0), .int .u8 0]) ?_ 1 _ rfl; refine pB ?_; refine blk_put (cs := #[.int .u8 0, .int .u8 0]) ?_ 0 _ rfl; refine pB ?_; exact BK128055.out⟩, ⟨hbs⟩⟩
                 ·rw [if_neg c70] at H
                  have c70b0 : decide (((rd_T161 gtab1 (ji45)).f1) < (rd x0_1 1)) = false := decide_eq_false c70
                  clear c70
                  by_cases c72 : 2 < (x0_1.length : Int)
                  ·rw [if_pos c72] at H
                   have c72b0 : decide (2 < (x0_1.length : Int)) = true := decide_eq_true c72
                   have c72b1 : decide (2 < x0_1.length) = true := decide_eq_true (by omega)
                   clear c72
                   by_cases c73 : (rd x0_1 2) < 128
                   ·rw [if_pos c73] at H
                    have c73b0 : decide ((rd x0_1 2) < 128) = true := decide_eq_true c73
                    clear c73
                    have H' := Aside0.mk H
                    clear H
                    have p128063 : 0 ≤ (1 : Int) := (by omega)
                    have q128063 : 1 < (x0_1.length : Int) := odt
                    obtain ⟨ad128063, e128063, hx128063_0⟩ := Kd.at_int (Kd.V_reads' HO_0.out).2.2 1 p128063 q128063
                    obtain rfl : ad128005 = ad128063 := (by injection e128063)
                    (try simp only [show (1 : Int).toNat = 1 from rfl, Nat.reduceMul, Nat.reduceEqDiff, Go.Addr.add, ↓reduceIte] at hx128063_0)
                    have qi128063 : (1 < x0_1.length) = True := eq_true (by omega)
                    (try rw [show ((1 : Int)).toNat = 1 from rfl] at hx128063_0)
                    have hn128063_0 : ad128005.block ≠ gb128055 := Kd.foot_ne (fun W_ hk_ => (Kd.V_at HO_0.out).2.2 W_ (fun k_ hk hlt_ => hk_.2 k_ hlt_ (hk.2) (by simp))) (by omega) (by decide)
                    have hn128063_1 : ad128005.block ≠ gb128055 := Kd.foot_ne (fun W_ hk_ => (Kd.V_at HO_0.out).2.2 W_ (fun k_ hk hlt_ => hk_.2 k_ hlt_ (hk.2) (by simp))) (by omega) (by decide)
                    replace hx128063_0 := (cell_far (p := ⟨gb128055, 0, none⟩) (by first | (rw [add_block]; exact hn128063_0) | (show (Addr.add _ _).block ≠ _; rw [add_block]; exact hn128063_0) | exact hn128063_0) (.int .u8 ((rd_T161 gtab1 (ji45)).f0))).trans hx128063_0
                    replace hx128063_0 := (cell_far (p := ⟨gb128055, 1, none⟩) (by first | (rw [add_block]; exact hn128063_1) | (show (Addr.add _ _).block ≠ _; rw [add_block]; exact hn128063_1) | exact hn128063_1) (.int .u8 ((rd_T161 gtab1 (ji45)).f1))).trans hx128063_0
                    (try have hy128063_0 := fun (n_ : Nat) => (show ((((w64.drewN n_).setCell ⟨gb128055, 0, none⟩ (.int .u8 ((rd_T161 gtab1 (ji45)).f0))).setCell ⟨gb128055, 1, none⟩ (.int .u8 ((rd_T161 gtab1 (ji45)).f1)))).cell? _ = some _ from hx128063_0))
                    clear hn128063_0
                    clear hn128063_1
                    replace p128063 := eq_true p128063
                    replace q128063 := eq_true q128063
                    have hcz74_0 : w64.cell? ⟨gb128055, 0, none⟩ = some (.int .u8 0) := (blk_cell BK128055.out 0).trans rfl
                    have hcz74_1 : w64.cell? ⟨gb128055, 1, none⟩ = some (.int .u8 0) := (blk_cell BK128055.out 1).trans rfl
                    have hfz74_0 := blk_frozen BK128055.out 0
                    have hfz74_1 := blk_frozen BK128055.out 1
                    have p128064 : 0 ≤ (1 : Int) := (by omega)
                    have q128064 : 1 < (x0_1.length : Int) := odt
                    obtain ⟨ad128064, e128064, hx128064_0⟩ := Kd.at_int (Kd.V_reads' HO_0.out).2.2 1 p128064 q128064
                    obtain rfl : ad128005 = ad128064 := (by injection e128064)
                    (try simp only [show (1 : Int).toNat = 1 from rfl, Nat.reduceMul, Nat.reduceEqDiff, Go.Addr.add, ↓reduceIte] at hx128064_0)
                    have qi128064 : (1 < x0_1.length) = True := eq_true (by omega)
                    (try rw [show ((1 : Int)).toNat = 1 from rfl] at hx128064_0)
                    have hn128064_0 : ad128005.block ≠ gb128055 := Kd.foot_ne (fun W_ hk_ => (Kd.V_at HO_0.out).2.2 W_ (fun k_ hk hlt_ => hk_.2 k_ hlt_ (hk.2) (by simp))) (by omega) (by decide)
                    have hn128064_1 : ad128005.block ≠ gb128055 := Kd.foot_ne (fun W_ hk_ => (Kd.V_at HO_0.out).2.2 W_ (fun k_ hk hlt_ => hk_.2 k_ hlt_ (hk.2) (by simp))) (by omega) (by decide)
                    replace hx128064_0 := (cell_far (p := ⟨gb128055, 0, none⟩) (by first | (rw [add_block]; exact hn128064_0) | (show (Addr.add _ _).block ≠ _; rw [add_block]; exact hn128064_0) | exact hn128064_0) (.int .u8 ((rd_T161 gtab1 (ji45)).f0))).trans hx128064_0
                    replace hx128064_0 := (cell_far (p := ⟨gb128055, 1, none⟩) (by first | (rw [add_block]; exact hn128064_1) | (show (Addr.add _ _).block ≠ _; rw [add_block]; exact hn128064_1) | exact hn128064_1) (.int .u8 ((rd_T161 gtab1 (ji45)).f1))).trans hx128064_0
                    (try have hy128064_0 := fun (n_ : Nat) => (show ((((w64.drewN n_).setCell ⟨gb128055, 0, none⟩ (.int .u8 ((rd_T161 gtab1 (ji45)).f0))).setCell ⟨gb128055, 1, none⟩ (.int .u8 ((rd_T161 gtab1 (ji45)).f1)))).cell? _ = some _ from hx128064_0))
                    clear hn128064_0
                    clear hn128064_1
                    replace p128064 := eq_true p128064
                    replace q128064 := eq_true q128064
                    have p128065 : 0 ≤ (2 : Int) := (by omega)
                    have q128065 : 2 < (x0_1.length : Int) := odt
                    obtain ⟨ad128065, e128065, hx128065_0⟩ := Kd.at_int (Kd.V_reads' HO_0.out).2.2 2 p128065 q128065
                    obtain rfl : ad128005 = ad128065 := (by injection e128065)
                    (try simp only [show (2 : Int).toNat = 2 from rfl, Nat.reduceMul, Nat.reduceEqDiff, Go.Addr.add, ↓reduceIte] at hx128065_0)
                    have qi128065 : (2 < x0_1.length) = True := eq_true (by omega)
                    (try rw [show ((2 : Int)).toNat = 2 from rfl] at hx128065_0)
                    have hn128065_0 : ad128005.block ≠ gb128055 := Kd.foot_ne (fun W_ hk_ => (Kd.V_at HO_0.out).2.2 W_ (fun k_ hk hlt_ => hk_.2 k_ hlt_ (hk.2) (by simp))) (by omega) (by decide)
                    have hn128065_1 : ad128005.block ≠ gb128055 := Kd.foot_ne (fun W_ hk_ => (Kd.V_at HO_0.out).2.2 W_ (fun k_ hk hlt_ => hk_.2 k_ hlt_ (hk.2) (by simp))) (by omega) (by decide)
                    replace hx128065_0 := (cell_far (p := ⟨gb128055, 0, none⟩) (by first | (rw [add_block]; exact hn128065_0) | (show (Addr.add _ _).block ≠ _; rw [add_block]; exact hn128065_0) | exact hn128065_0) (.int .u8 ((rd_T161 gtab1 (ji45)).f0))).trans hx128065_0
                    replace hx128065_0 := (cell_far (p := ⟨gb128055, 1, none⟩) (by first | (rw [add_block]; exact hn128065_1) | (show (Addr.add _ _).block ≠ _; rw [add_block]; exact hn128065_1) | exact hn128065_1) (.int .u8 ((rd_T161 gtab1 (ji45)).f1))).trans hx128065_0
                    (try have hy128065_0 := fun (n_ : Nat) => (show ((((w64.drewN n_).setCell ⟨gb128055, 0, none⟩ (.int .u8 ((rd_T161 gtab1 (ji45)).f0))).setCell ⟨gb128055, 1, none⟩ (.int .u8 ((rd_T161 gtab1 (ji45)).f1)))).cell? _ = some _ from hx128065_0))
                    clear hn128065_0
                    clear hn128065_1
                    replace p128065 := eq_true p128065
                    replace q128065 := eq_true q128065
                    go_wp2
                    repeat (go_quiet (fail); try go_wp2)
                    go_meet
                    case rel => exact ⟨_, (true), rfs, H', ⟨by have := HK1.out; first | omega | exact Nat.le_refl _⟩, ⟨by (with_reducible repeat (first | apply Kd.V_alloc | apply Kd.V_drewN | apply Kd.V_drew)); exact Kd.V_mono (Kd.V_far (p := ⟨gb128055, 1, none⟩) (Kd.V_far (p := ⟨gb128055, 0, none⟩) (Kd.V_mono HO_0.out (fun k_ hk => (⟨hk, hk.2⟩ : _ ∧ k_ ≠ gb128055))) (fun _ hk => hk.2) (.int .u8 ((rd_T161 gtab1 (ji45)).f0))) (fun _ hk => hk.2) (.int .u8 ((rd_T161 gtab1 (ji45)).f1))) (fun _ hk => ⟨hk.1.1, hk.1.2⟩)⟩, ⟨by refine pB ?_; refine blk_put (cs := #[.int .u8 ((rd_T161 gtab1 (ji45)).f0), .int .u8 0]) ?_ 1 _ rfl; refine pB ?_; refine blk_put (cs := #[.int .u8 0, .int .u8 0]) ?_ 0 _ rfl; refine pB ?_; exact BK128055.out⟩, ⟨hbs⟩⟩
                   ·rw [if_neg c73] at H
                    have c73b0 : decide ((rd x0_1 2) < 128) = false := decide_eq_false c73
                    clear c73
                    have H' := Aside0.mk H
                    clear H
                    have p128063 : 0 ≤ (1 : Int) := (by omega)
                    have q128063 : 1 < (x0_1.length : Int) := odt
                    obtain ⟨ad128063, e128063, hx128063_0⟩ := Kd.at_int (Kd.V_reads' HO_0.out).2.2 1 p128063 q128063
                    obtain rfl : ad128005 = ad128063 := (by injection e128063)
                    (try simp only [show (1 : Int).toNat = 1 from rfl, Nat.reduceMul, Nat.reduceEqDiff, Go.Addr.add, ↓reduceIte] at hx128063_0)
                    have qi128063 : (1 < x0_1.length) = True := eq_true (by omega)
                    (try rw [show ((1 : Int)).toNat = 1 from rfl] at hx128063_0)
                    have hn128063_0 : ad128005.block ≠ gb128055 := Kd.foot_ne (fun W_ hk_ => (Kd.V_at HO_0.out).2.2 W_ (fun k_ hk hlt_ => hk_.2 k_ hlt_ (hk.2) (by simp))) (by omega) (by decide)
                    have hn128063_1 : ad128005.block ≠ gb128055 := Kd.foot_ne (fun W_ hk_ => (Kd.V_at HO_0.out).2.2 W_ (fun k_ hk hlt_ => hk_.2 k_ hlt_ (hk.2) (by simp))) (by omega) (by decide)
                    replace hx128063_0 := (cell_far (p := ⟨gb128055, 0, none⟩) (by first | (rw [add_block]; exact hn128063_0) | (show (Addr.add _ _).block ≠ _; rw [add_block]; exact hn128063_0) | exact hn128063_0) (.int .u8 ((rd_T161 gtab1 (ji45)).f0))).trans hx128063_0
                    replace hx128063_0 := (cell_far (p := ⟨gb128055, 1, none⟩) (by first | (rw [add_block]; exact hn128063_1) | (show (Addr.add _ _).block ≠ _; rw [add_block]; exact hn128063_1) | exact hn128063_1) (.int .u8 ((rd_T161 gtab1 (ji45)).f1))).trans hx128063_0
                    (try have hy128063_0 := fun (n_ : Nat) => (show ((((w64.drewN n_).setCell ⟨gb128055, 0, none⟩ (.int .u8 ((rd_T161 gtab1 (ji45)).f0))).setCell ⟨gb128055, 1, none⟩ (.int .u8 ((rd_T161 gtab1 (ji45)).f1)))).cell? _ = some _ from hx128063_0))
                    clear hn128063_0
                    clear hn128063_1
                    replace p128063 := eq_true p128063
                    replace q128063 := eq_true q128063
                    have hcz75_0 : w64.cell? ⟨gb128055, 0, none⟩ = some (.int .u8 0) := (blk_cell BK128055.out 0).trans rfl
                    have hcz75_1 : w64.cell? ⟨gb128055, 1, none⟩ = some (.int .u8 0) := (blk_cell BK128055.out 1).trans rfl
                    have hfz75_0 := blk_frozen BK128055.out 0
                    have hfz75_1 := blk_frozen BK128055.out 1
                    have p128064 : 0 ≤ (1 : Int) := (by omega)
                    have q128064 : 1 < (x0_1.length : Int) := odt
                    obtain ⟨ad128064, e128064, hx128064_0⟩ := Kd.at_int (Kd.V_reads' HO_0.out).2.2 1 p128064 q128064
                    obtain rfl : ad128005 = ad128064 := (by injection e128064)
                    (try simp only [show (1 : Int).toNat = 1 from rfl, Nat.reduceMul, Nat.reduceEqDiff, Go.Addr.add, ↓reduceIte] at hx128064_0)
                    have qi128064 : (1 < x0_1.length) = True := eq_true (by omega)
                    (try rw [show ((1 : Int)).toNat = 1 from rfl] at hx128064_0)
                    have hn128064_0 : ad128005.block ≠ gb128055 := Kd.foot_ne (fun W_ hk_ => (Kd.V_at HO_0.out).2.2 W_ (fun k_ hk hlt_ => hk_.2 k_ hlt_ (hk.2) (by simp))) (by omega) (by decide)
                    have hn128064_1 : ad128005.block ≠ gb128055 := Kd.foot_ne (fun W_ hk_ => (Kd.V_at HO_0.out).2.2 W_ (fun k_ hk hlt_ => hk_.2 k_ hlt_ (hk.2) (by simp))) (by omega) (by decide)
                    replace hx128064_0 := (cell_far (p := ⟨gb128055, 0, none⟩) (by first | (rw [add_block]; exact hn128064_0) | (show (Addr.add _ _).block ≠ _; rw [add_block]; exact hn128064_0) | exact hn128064_0) (.int .u8 ((rd_T161 gtab1 (ji45)).f0))).trans hx128064_0
                    replace hx128064_0 := (cell_far (p := ⟨gb128055, 1, none⟩) (by first | (rw [add_block]; exact hn128064_1) | (show (Addr.add _ _).block ≠ _; rw [add_block]; exact hn128064_1) | exact hn128064_1) (.int .u8 ((rd_T161 gtab1 (ji45)).f1))).trans hx128064_0
                    (try have hy128064_0 := fun (n_ : Nat) => (show ((((w64.drewN n_).setCell ⟨gb128055, 0, none⟩ (.int .u8 ((rd_T161 gtab1 (ji45)).f0))).setCell ⟨gb128055, 1, none⟩ (.int .u8 ((rd_T161 gtab1 (ji45)).f1)))).cell? _ = some _ from hx128064_0))
                    clear hn128064_0
                    clear hn128064_1
                    replace p128064 := eq_true p128064
                    replace q128064 := eq_true q128064
                    have p128065 : 0 ≤ (2 : Int) := (by omega)
                    have q128065 : 2 < (x0_1.length : Int) := odt
                    obtain ⟨ad128065, e128065, hx128065_0⟩ := Kd.at_int (Kd.V_reads' HO_0.out).2.2 2 p128065 q128065
                    obtain rfl : ad128005 = ad128065 := (by injection e128065)
                    (try simp only [show (2 : Int).toNat = 2 from rfl, Nat.reduceMul, Nat.reduceEqDiff, Go.Addr.add, ↓reduceIte] at hx128065_0)
                    have qi128065 : (2 < x0_1.length) = True := eq_true (by omega)
                    (try rw [show ((2 : Int)).toNat = 2 from rfl] at hx128065_0)
                    have hn128065_0 : ad128005.block ≠ gb128055 := Kd.foot_ne (fun W_ hk_ => (Kd.V_at HO_0.out).2.2 W_ (fun k_ hk hlt_ => hk_.2 k_ hlt_ (hk.2) (by simp))) (by omega) (by decide)
                    have hn128065_1 : ad128005.block ≠ gb128055 := Kd.foot_ne (fun W_ hk_ => (Kd.V_at HO_0.out).2.2 W_ (fun k_ hk hlt_ => hk_.2 k_ hlt_ (hk.2) (by simp))) (by omega) (by decide)
                    replace hx128065_0 := (cell_far (p := ⟨gb128055, 0, none⟩) (by first | (rw [add_block]; exact hn128065_0) | (show (Addr.add _ _).block ≠ _; rw [add_block]; exact hn128065_0) | exact hn128065_0) (.int .u8 ((rd_T161 gtab1 (ji45)).f0))).trans hx128065_0
                    replace hx128065_0 := (cell_far (p := ⟨gb128055, 1, none⟩) (by first | (rw [add_block]; exact hn128065_1) | (show (Addr.add _ _).block ≠ _; rw [add_block]; exact hn128065_1) | exact hn128065_1) (.int .u8 ((rd_T161 gtab1 (ji45)).f1))).trans hx128065_0
                    (try have hy128065_0 := fun (n_ : Nat) => (show ((((w64.drewN n_).setCell ⟨gb128055, 0, none⟩ (.int .u8 ((rd_T161 gtab1 (ji45)).f0))).setCell ⟨gb128055, 1, none⟩ (.int .u8 ((rd_T161 gtab1 (ji45)).f1)))).cell? _ = some _ from hx128065_0))
                    clear hn128065_0
                    clear hn128065_1
                    replace p128065 := eq_true p128065
                    replace q128065 := eq_true q128065
                    have p128066 : 0 ≤ (2 : Int) := (by omega)
                    have q128066 : 2 < (x0_1.length : Int) := odt
                    obtain ⟨ad128066, e128066, hx128066_0⟩ := Kd.at_int (Kd.V_reads' HO_0.out).2.2 2 p128066 q128066
                    obtain rfl : ad128005 = ad128066 := (by injection e128066)
                    (try simp only [show (2 : Int).toNat = 2 from rfl, Nat.reduceMul, Nat.reduceEqDiff, Go.Addr.add, ↓reduceIte] at hx128066_0)
                    have qi128066 : (2 < x0_1.length) = True := eq_true (by omega)
                    (try rw [show ((2 : Int)).toNat = 2 from rfl] at hx128066_0)
                    have hn128066_0 : ad128005.block ≠ gb128055 := Kd.foot_ne (fun W_ hk_ => (Kd.V_at HO_0.out).2.2 W_ (fun k_ hk hlt_ => hk_.2 k_ hlt_ (hk.2) (by simp))) (by omega) (by decide)
                    have hn128066_1 : ad128005.block ≠ gb128055 := Kd.foot_ne (fun W_ hk_ => (Kd.V_at HO_0.out).2.2 W_ (fun k_ hk hlt_ => hk_.2 k_ hlt_ (hk.2) (by simp))) (by omega) (by decide)
                    replace hx128066_0 := (cell_far (p := ⟨gb128055, 0, none⟩) (by first | (rw [add_block]; exact hn128066_0) | (show (Addr.add _ _).block ≠ _; rw [add_block]; exact hn128066_0) | exact hn128066_0) (.int .u8 ((rd_T161 gtab1 (ji45)).f0))).trans hx128066_0
                    replace hx128066_0 := (cell_far (p := ⟨gb128055, 1, none⟩) (by first | (rw [add_block]; exact hn128066_1) | (show (Addr.add _ _).block ≠ _; rw [add_block]; exact hn128066_1) | exact hn128066_1) (.int .u8 ((rd_T161 gtab1 (ji45)).f1))).trans hx128066_0
                    (try have hy128066_0 := fun (n_ : Nat) => (show ((((w64.drewN n_).setCell ⟨gb128055, 0, none⟩ (.int .u8 ((rd_T161 gtab1 (ji45)).f0))).setCell ⟨gb128055, 1, none⟩ (.int .u8 ((rd_T161 gtab1 (ji45)).f1)))).cell? _ = some _ from hx128066_0))
                    clear hn128066_0
                    clear hn128066_1
                    replace p128066 := eq_true p128066
                    replace q128066 := eq_true q128066
                    go_wp2
                    repeat (go_quiet (fail); try go_wp2)
                    go_meet
                    case rel => exact ⟨_, (decide (191 < (rd x0_1 2))), rfs, H', ⟨by have := HK1.out; first | omega | exact Nat.le_refl _⟩, ⟨by (with_reducible repeat (first | apply Kd.V_alloc | apply Kd.V_drewN | apply Kd.V_drew)); exact Kd.V_mono (Kd.V_far (p := ⟨gb128055, 1, none⟩) (Kd.V_far (p := ⟨gb128055, 0, none⟩) (Kd.V_mono HO_0.out (fun k_ hk => (⟨hk, hk.2⟩ : _ ∧ k_ ≠ gb128055))) (fun _ hk => hk.2) (.int .u8 ((rd_T161 gtab1 (ji45)).f0))) (fun _ hk => hk.2) (.int .u8 ((rd_T161 gtab1 (ji45)).f1))) (fun _ hk => ⟨hk.1.1, hk.1.2⟩)⟩, ⟨by refine pB ?_; refine blk_put (cs := #[.int .u8 ((rd_T161 gtab1 (ji45)).f0), .int .u8 0]) ?_ 1 _ rfl; refine pB ?_; refine blk_put (cs := #[.int .u8 0, .int .u8 0]) ?_ 0 _ rfl; refine pB ?_; exact BK128055.out⟩, ⟨hbs⟩⟩
                  ·rw [if_neg c72] at H
                   exact absurd H (by simp)
               ·rw [if_neg c67] at H
                exact absurd H (by simp)
             case rest =>
              clear HC62
              try clear c1
              try clear p1
              try clear q1
              try clear hx1
              try clear qi1
              try clear c2
              try clear c2b0
              try clear c2b1
              try clear p2
              try clear q2
              try clear c3
              try clear q3
              try clear c4
              try clear c4b0
              try clear c4b1
              try clear q4
              try clear c5
              try clear c5b0
              try clear c5b1
              try clear c6
              try clear c6b0
              try clear p6
              try clear q6
              try clear c7
              try clear c7b0
              try clear c7b1
              try clear c10
              try clear q10
              try clear c11
              try clear c11b0
              try clear c11b1
              try clear c12
              try clear p12
              try clear q12
              try clear hx12
              try clear qi12
              try clear c13
              try clear c14
              try clear c14b0
              try clear c14b1
              try clear c16
              try clear q16
              try clear c17
              try clear c17b0
              try clear c17b1
              try clear c19
              try clear c19b0
              try clear c19b1
              try clear c21
              try clear q21
              try clear c22
              try clear c23
              try clear c23b0
              try clear c23b1
              try clear c24
              try clear q24
              try clear c26
              try clear c26b0
              try clear c26b1
              try clear c28
              try clear c28b0
              try clear c28b1
              try clear c30
              try clear c30b0
              try clear c30b1
              try clear c32
              try clear c32b0
              try clear c32b1
              try clear c35
              try clear q35
              try clear c36
              try clear q36
              try clear c37
              try clear q37
              try clear c39
              try clear c40
              try clear c40b0
              try clear c40b1
              try clear c41
              try clear q41
              try clear c43
              try clear c43b0
              try clear c44
              try clear c44b0
              try clear c46
              try clear c46b0
              try clear c47
              try clear c47b0
              try clear c48
              try clear c48b0
              try clear c48b1
              try clear c53
              try clear c53b0
              try clear c53b1
              try clear c54
              try clear c54b0
              try clear c54b1
              try clear c55
              try clear c55b0
              try clear c58
              try clear c59
              try clear c59b0
              try clear c59b1
              try clear c60
              try clear q60
              try clear c61
              try clear c61b0
              try clear c61b1
              try clear p64
              try clear c66
              try clear c66b0
              try clear c66b1
              try clear c67
              try clear c67b0
              try clear c67b1
              try clear c68
              try clear c68b0
              try clear c70
              try clear c70b0
              try clear c72
              try clear c72b0
              try clear c72b1
              try clear c73
              try clear c73b0
              try clear hcz52_0
              try clear hcz52_1
              try clear hcz56_0
              try clear hcz56_1
              try clear hcz57_0
              try clear hcz57_1
              try clear hcz65_0
              try clear hcz65_1
              try clear hcz69_0
              try clear hcz69_1
              try clear hcz71_0
              try clear hcz71_1
              try clear hcz74_0
              try clear hcz74_1
              try clear hcz75_0
              try clear hcz75_1
              try clear hfz52_0
              try clear hfz52_1
              try clear hfz56_0
              try clear hfz56_1
              try clear hfz57_0
              try clear hfz57_1
              try clear hfz65_0
              try clear hfz65_1
              try clear hfz69_0
              try clear hfz69_1
              try clear hfz71_0
              try clear hfz71_1
              try clear hfz74_0
              try clear hfz74_1
              try clear hfz75_0
              try clear hfz75_1
              try clear hx128005_0
              try clear hx128053_0
              try clear hx128054_0
              try clear hx128054_1
              try clear hx128056_0
              try clear hx128057_0
              try clear hx128063_0
              try clear hx128064_0
              try clear hx128065_0
              try clear hx128066_0
              try clear p1
              try clear p12
              try clear p128005
              try clear p128053
              try clear p128054
              try clear p128056
              try clear p128057
              try clear p128063
              try clear p128064
              try clear p128065
              try clear p128066
              try clear p2
              try clear p6
              try clear q1
              try clear q10
              try clear q12
              try clear q128005
              try clear q128053
              try clear q128054
              try clear q128056
              try clear q128057
              try clear q128063
              try clear q128064
              try clear q128065
              try clear q128066
              try clear q16
              try clear q2
              try clear q21
              try clear q24
              try clear q3
              try clear q35
              try clear q36
              try clear q37
              try clear q4
              try clear q41
              try clear q60
              obtain ⟨kq, x138_61, rfl, HA, HJ61, HO_0, BK128055, HB⟩ := hcut
              cases kq with
              | zero => exact absurd HA.out (by simp [utf8_Valid.j6])
              | succ kj61 =>
               have H := HA.out
               clear HA
               simp only [utf8_Valid.j6] at H
               by_cases c76 : x138_61 = true
               ·as_aux_lemma =>
                subst c76
                have H1 : (some false) = some r := by rw [if_pos rfl] at H; exact H
                clear H
                have H := H1
                clear H1
                obtain rfl := Option.some.inj H
                go_wp2
                repeat (go_quiet (fail); try go_wp2)
                go_ret
                exact ⟨by first | rfl | (simp [errW_none, errW_some] <;> rfl) | (simp only [← hji45]; first | rfl | (simp [errW_none, errW_some] <;> rfl)) | (simp [*, errW_none, errW_some] <;> rfl), hbs⟩
               ·as_aux_lemma =>
                replace c76 := Bool.eq_false_iff.mpr c76
                subst c76
                have H1 : (if 3 ≤ (x0_1.length : Int) then (utf8_Valid.l0 kj61 (x0_1.drop 3)) else (none)) = some r := by rw [if_neg (show ¬ (false = true) by decide)] at H; exact H
                clear H
                have H := H1
                clear H1
                by_cases c77 : 3 ≤ (x0_1.length : Int)
                ·rw [if_pos c77] at H
                 have c77b0 := eq_true c77
                 have c77b1 : decide (3 ≤ (x0_1.length : Int)) = true := decide_eq_true c77
                 clear c77
                 obtain ⟨y128067, hy128067⟩ : ∃ y_ : List Int, y_ = (x0_1.drop 3) := ⟨_, rfl⟩
                 replace H : (utf8_Valid.l0 kj61 y128067) = some r := repH hy128067 H
                 have Ny128067 := Aside0.mk hy128067
                 clear hy128067
                 have H' := Aside0.mk H
                 clear H
                 have q78 : (3 : Int) ≤ ((x0_1.length : Int) : Int) := odt
                 obtain ⟨i078, hi078, _, hsz78, _⟩ := info_parts info5
                 have hroom78 : x0_1.length ≤ co63 := (Kd.V_reads' HO_0.out).2.1
                 have hC78 : Kd.F (Kd.int .u8) _ _ (some ad128005) x0_1.length x0_1 := (Kd.V_at (base := w.heap.size) HO_0.out).2.2
                 have hcut78 := cut_from (P := Tryd.prog) 22 5 .i64 Tryd.underlying22 hi078 1 hsz78 (some ad128005) x0_1.length co63 3 (by omega) q78
                 have hr78 := Kd.F_cut (m := (3 : Int).toNat) (c := co63) hC78 (by omega) hroom78
                 obtain ⟨A78, hA78⟩ : ∃ A1_, A1_ = (if co63 = (3 : Int).toNat then (some ad128005) else ((some ad128005) : Option Addr).map (·.add ((3 : Int).toNat * 1))) := ⟨_, rfl⟩
                 obtain ⟨c78, hc78⟩ : ∃ c1_, c1_ = co63 - (3 : Int).toNat := ⟨_, rfl⟩
                 have hy78 : y128067.length = x0_1.length - (3 : Int).toNat := (by rw [Ny128067.out, List.length_drop] <;> omega)
                 rw [show (x0_1).drop (3 : Int).toNat = y128067 from Ny128067.out.symm] at hr78
                 replace hr78 : Kd.F (Kd.int .u8) _ _ A78 y128067.length y128067 := (by rw [hA78]; exact hr78)
                 rw [← hy78, ← hA78, ← hc78] at hcut78
                 have HO128071 := Aside0.mk (show Kd.V (Kd.int .u8) 5 _ w.heap.size _ (.slice A78 y128067.length c78) y128067 from Kd.V_mk (by rw [hy78, hc78]; exact Nat.sub_le_sub_right hroom78 _) hr78)
                 have HC128071 := Aside0.mk (show y128067.length ≤ c78 from by rw [hy78, hc78]; exact Nat.sub_le_sub_right hroom78 _)
                 clear hr78 hC78 hroom78 hi078 hsz78 hc78
                 have KY78 := Aside0.mk hy78
                 have KA78 := Aside0.mk hA78
                 clear hy78 hA78
                 replace q78 := eq_true q78
                 go_wp2
                 repeat (go_quiet (fail); try go_wp2)
                 go_roundg kj61
                 case measure => have := HK1.out; have := HJ61.out; omega
                 case rel => exact ⟨(y128067), H', ⟨by have := HK1.out; have := HJ61.out; omega⟩, ⟨by (with_reducible repeat (first | apply Kd.V_alloc | apply Kd.V_drewN | apply Kd.V_drew)); exact Kd.V_mono HO128071.out (fun _ hk => hk.1)⟩, ⟨hbs⟩⟩
                ·rw [if_neg c77] at H
                 exact absurd H (by simp)
            ·rw [if_neg c61] at H
             have c61b0 : ((wrap64 (Go.bits .and .u8 (rd gtab0 (rd x0_1 0)) 7)) == 3) = false := beq_eq_false_iff_ne.mpr c61
             have c61b1 : ((wrap64 (Go.bits .and .u8 (rd gtab0 (rd x0_1 0)) 7)) != 3) = true := bne_iff_ne.mpr c61
             by_cases c79 : (wrap64 (Go.bits .and .u8 (rd gtab0 (rd x0_1 0)) 7)) = 4
             ·rw [if_pos c79] at H
              have c79b0 : ((wrap64 (Go.bits .and .u8 (rd gtab0 (rd x0_1 0)) 7)) == 4) = true := beq_iff_eq.mpr c79
              have c79b1 : ((wrap64 (Go.bits .and .u8 (rd gtab0 (rd x0_1 0)) 7)) != 4) = false := bne_eq_false_iff_eq.mpr c79
              clear c79
              have HC80 := Aside0.mk H
              clear H
              obtain ⟨Ao81, co81, eo81⟩ := Kd.V_slice HO_0.out
              subst eo81
              have p128005 : 0 ≤ (0 : Int) := (by omega)
              have q128005 : 0 < (x0_1.length : Int) := odt
              obtain ⟨ad128005, e128005, hx128005_0⟩ := Kd.at_int (Kd.V_reads' HO_0.out).2.2 0 p128005 q128005
              cases e128005
              have qi128005 : (0 < x0_1.length) = True := eq_true (by omega)
              (try rw [show ((0 : Int)).toNat = 0 from rfl] at hx128005_0)
              (try rw [Addr.add_zero'] at hx128005_0)
              replace p128005 := eq_true p128005
              replace q128005 := eq_true q128005
              have p128053 : 0 ≤ ((rd x0_1 0) : Int) := odt
              have q128053 : (rd x0_1 0) < (256 : Int) := odt
              have hx128053_0 := GTab.at0 (show GTab wr from GTab.below hG hbw) ((rd x0_1 0)) p128053 q128053
              replace p128053 := eq_true p128053
              replace q128053 := eq_true q128053
              have p128054 : 0 ≤ ((ji45) : Int) := odt
              have q128054 : (ji45) < (16 : Int) := odt
              have hx128054_0 := GTab.at1_0 (show GTab wr from GTab.below hG hbw) ((ji45)) p128054 q128054
              have hx128054_1 := GTab.at1_1 (show GTab wr from GTab.below hG hbw) ((ji45)) p128054 q128054
              replace p128054 := eq_true p128054
              replace q128054 := eq_true q128054
              go_upto_region 26 with (first | ((with_reducible refine gate_dst (N := 6) rfl ?_); refine boxE 6 #[.int .u8 0, .int .u8 0] 161 ?_; intro gb128055 hg w82 BK128055 hb; have GW128055 := Aside0.mk (gsz hg hbw : w.heap.size ≤ gb128055); have GE128055 := GW128055; replace HO_0 := Aside0.mk (Kd.V_below (Kd.V_elderB (hrnV HO_0) gb128055 (Nat.le_of_eq hg.symm)) hb); replace HB := Aside0.mk (below_step hbw hb); clear hb hg; have hcz83_0 : w82.cell? ⟨gb128055, 0, none⟩ = some (.int .u8 0) := (blk_cell BK128055.out 0).trans rfl; have hcz83_1 : w82.cell? ⟨gb128055, 1, none⟩ = some (.int .u8 0) := (blk_cell BK128055.out 1).trans rfl; have hfz83_0 := blk_frozen BK128055.out 0; have hfz83_1 := blk_frozen BK128055.out 1))
              repeat (go_quiet (fail); go_upto_region 26 with (first | ((with_reducible refine gate_dst (N := 6) rfl ?_); refine boxE 6 #[.int .u8 0, .int .u8 0] 161 ?_; intro gb128055 hg w82 BK128055 hb; have GW128055 := Aside0.mk (gsz hg hbw : w.heap.size ≤ gb128055); have GE128055 := GW128055; replace HO_0 := Aside0.mk (Kd.V_below (Kd.V_elderB (hrnV HO_0) gb128055 (Nat.le_of_eq hg.symm)) hb); replace HB := Aside0.mk (below_step hbw hb); clear hb hg; have hcz83_0 : w82.cell? ⟨gb128055, 0, none⟩ = some (.int .u8 0) := (blk_cell BK128055.out 0).trans rfl; have hcz83_1 : w82.cell? ⟨gb128055, 1, none⟩ = some (.int .u8 0) := (blk_cell BK128055.out 1).trans rfl; have hfz83_0 := blk_frozen BK128055.out 0; have hfz83_1 := blk_frozen BK128055.out 1)))
              (try simp only [Act.put, List.setIfInBounds_toArray, List.set_cons_zero, List.set_cons_succ])
              go_cut [185] (fun v185 wc => ∃ (kq : Nat) (x185_79 : Bool), v185 = .bool x185_79 ∧ Aside0 (utf8_Valid.j7 kq x0_1 x185_79 = some r) ∧ Aside0 (kq ≤ k1) ∧ Aside0 (Kd.V (Kd.int .u8) 5 wc w.heap.size (fun k_ => (P0_ k_ ∨ w.heap.size ≤ k_) ∧ k_ ≠ gb128055) (.slice (some ad128005) x0_1.length co81) x0_1) ∧ Aside0 (wc.heap[gb128055]? = some (.cells #[.int .u8 ((rd_T161 gtab1 (ji45)).f0), .int .u8 ((rd_T161 gtab1 (ji45)).f1)] 161 (0, 0))) ∧ Aside0 (Below w.heap.size w wc))
              case first =>
               have H := HC80.out
               clear HC80
               by_cases c84 : (x0_1.length : Int) < 4
               ·as_aux_lemma =>
                rw [if_pos c84] at H
                have c84b0 : decide ((x0_1.length : Int) < 4) = true := decide_eq_true c84
                have c84b1 : decide (x0_1.length < 4) = true := decide_eq_true (by omega)
                clear c84
                (first | rw [c84b0] | (simp only [i64_w, i32_w]; rw [c84b0]) | skip)
                have H' := Aside0.mk H
                clear H
                go_wp2
                repeat (go_quiet (fail); try go_wp2)
                go_meet
                case rel => exact ⟨_, (true), rfs, H', ⟨by have := HK1.out; first | omega | exact Nat.le_refl _⟩, ⟨by (with_reducible repeat (first | apply Kd.V_alloc | apply Kd.V_drewN | apply Kd.V_drew)); exact Kd.V_mono (Kd.V_far (p := ⟨gb128055, 1, none⟩) (Kd.V_far (p := ⟨gb128055, 0, none⟩) (Kd.V_mono HO_0.out (fun k_ hk => (⟨hk, hk.2⟩ : _ ∧ k_ ≠ gb128055))) (fun _ hk => hk.2) (.int .u8 ((rd_T161 gtab1 (ji45)).f0))) (fun _ hk => hk.2) (.int .u8 ((rd_T161 gtab1 (ji45)).f1))) (fun _ hk => ⟨hk.1.1, hk.1.2⟩)⟩, ⟨by refine pB ?_; refine blk_put (cs := #[.int .u8 ((rd_T161 gtab1 (ji45)).f0), .int .u8 0]) ?_ 1 _ rfl; refine pB ?_; refine blk_put (cs := #[.int .u8 0, .int .u8 0]) ?_ 0 _ rfl; refine pB ?_; exact BK128055.out⟩, ⟨hbs⟩⟩
               ·rw [if_neg c84] at H
                have c84b0 : decide ((x0_1.length : Int) < 4) = false := decide_eq_false c84
                have c84b1 : decide (x0_1.length < 4) = false := decide_eq_false (by omega)
                clear c84
                (first | rw [c84b0] | (simp only [i64_w, i32_w]; rw [c84b0]) | skip)
                by_cases c85 : 1 < (x0_1.length : Int)
                ·rw [if_pos c85] at H
                 have c85b0 : decide (1 < (x0_1.length : Int)) = true := decide_eq_true c85
                 have c85b1 : decide (1 < x0_1.length) = true := decide_eq_true (by omega)
                 clear c85
                 by_cases c86 : (rd x0_1 1) < ((rd_T161 gtab1 (ji45)).f0)
                 ·as_aux_lemma =>
                  rw [if_pos c86] at H
                  have c86b0 : decide ((rd x0_1 1) < ((rd_T161 gtab1 (ji45)).f0)) = true := decide_eq_true c86
                  clear c86
                  have H' := Aside0.mk H
                  clear H
                  have p128072 : 0 ≤ (1 : Int) := (by omega)
                  have q128072 : 1 < (x0_1.length : Int) := odt
                  obtain ⟨ad128072, e128072, hx128072_0⟩ := Kd.at_int (Kd.V_reads' HO_0.out).2.2 1 p128072 q128072
                  obtain rfl : ad128005 = ad128072 := (by injection e128072)
                  (try simp only [show (1 : Int).toNat = 1 from rfl, Nat.reduceMul, Nat.reduceEqDiff, Go.Addr.add, ↓reduceIte] at hx128072_0)
                  have qi128072 : (1 < x0_1.length) = True := eq_true (by omega)
                  (try rw [show ((1 : Int)).toNat = 1 from rfl] at hx128072_0)
                  have hn128072_0 : ad128005.block ≠ gb128055 := Kd.foot_ne (fun W_ hk_ => (Kd.V_at HO_0.out).2.2 W_ (fun k_ hk hlt_ => hk_.2 k_ hlt_ (hk.2) (by simp))) (by omega) (by decide)
                  have hn128072_1 : ad128005.block ≠ gb128055 := Kd.foot_ne (fun W_ hk_ => (Kd.V_at HO_0.out).2.2 W_ (fun k_ hk hlt_ => hk_.2 k_ hlt_ (hk.2) (by simp))) (by omega) (by decide)
                  replace hx128072_0 := (cell_far (p := ⟨gb128055, 0, none⟩) (by first | (rw [add_block]; exact hn128072_0) | (show (Addr.add _ _).block ≠ _; rw [add_block]; exact hn128072_0) | exact hn128072_0) (.int .u8 ((rd_T161 gtab1 (ji45)).f0))).trans hx128072_0
                  replace hx128072_0 := (cell_far (p := ⟨gb128055, 1, none⟩) (by first | (rw [add_block]; exact hn128072_1) | (show (Addr.add _ _).block ≠ _; rw [add_block]; exact hn128072_1) | exact hn128072_1) (.int .u8 ((rd_T161 gtab1 (ji45)).f1))).trans hx128072_0
                  (try have hy128072_0 := fun (n_ : Nat) => (show ((((w82.drewN n_).setCell ⟨gb128055, 0, none⟩ (.int .u8 ((rd_T161 gtab1 (ji45)).f0))).setCell ⟨gb128055, 1, none⟩ (.int .u8 ((rd_T161 gtab1 (ji45)).f1)))).cell? _ = some _ from hx128072_0))
                  clear hn128072_0
                  clear hn128072_1
                  replace p128072 := eq_true p128072
                  replace q128072 := eq_true q128072
                  have hcz87_0 : w82.cell? ⟨gb128055, 0, none⟩ = some (.int .u8 0) := (blk_cell BK128055.out 0).trans rfl
                  have hcz87_1 : w82.cell? ⟨gb128055, 1, none⟩ = some (.int .u8 0) := (blk_cell BK128055.out 1).trans rfl
                  have hfz87_0 := blk_frozen BK128055.out 0
                  have hfz87_1 := blk_frozen BK128055.out 1
                  go_wp2
                  repeat (go_quiet (fail); try go_wp2)
                  go_meet
                  case rel => exact ⟨_, (true), rfs, H', ⟨by have := HK1.out; first | omega | exact Nat.le_refl _⟩, ⟨by (with_reducible repeat (first | apply Kd.V_alloc | apply Kd.V_drewN | apply Kd.V_drew)); exact Kd.V_mono (Kd.V_far (p := ⟨gb128055, 1, none⟩) (Kd.V_far (p := ⟨gb128055, 0, none⟩) (Kd.V_mono HO_0.out (fun k_ hk => (⟨hk, hk.2⟩ : _ ∧ k_ ≠ gb128055))) (fun _ hk => hk.2) (.int .u8 ((rd_T161 gtab1 (ji45)).f0))) (fun _ hk => hk.2) (.int .u8 ((rd_T161 gtab1 (ji45)).f1))) (fun _ hk => ⟨hk.1.1, hk.1.2⟩)⟩, ⟨by refine pB ?_; refine blk_put (cs := #[.int .u8 ((rd_T161 gtab1 (ji45)).f0), .int .u8 0]) ?_ 1 _ rfl; refine pB ?_; refine blk_put (cs := #[.int .u8 0, .int .u8 0]) ?_ 0 _ rfl; refine pB ?_; exact BK128055.out⟩, ⟨hbs⟩⟩
                 ·rw [if_neg c86] at H
                  have c86b0 : decide ((rd x0_1 1) < ((rd_T161 gtab1 (ji45)).f0)) = false := decide_eq_false c86
                  clear c86
                  by_cases c88 : ((rd_T161 gtab1 (ji45)).f1) < (rd x0_1 1)
                  ·as_aux_lemma =>
                   rw [if_pos c88] at H
                   have c88b0 : decide (((rd_T161 gtab1 (ji45)).f1) < (rd x0_1 1)) = true := decide_eq_true c88
                   clear c88
                   have H' := Aside0.mk H
                   clear H
                   have p128072 : 0 ≤ (1 : Int) := (by omega)
                   have q128072 : 1 < (x0_1.length : Int) := odt
                   obtain ⟨ad128072, e128072, hx128072_0⟩ := Kd.at_int (Kd.V_reads' HO_0.out).2.2 1 p128072 q128072
                   obtain rfl : ad128005 = ad128072 := (by injection e128072)
                   (try simp only [show (1 : Int).toNat = 1 from rfl, Nat.reduceMul, Nat.reduceEqDiff, Go.Addr.add, ↓reduceIte] at hx128072_0)
                   have qi128072 : (1 < x0_1.length) = True := eq_true (by omega)
                   (try rw [show ((1 : Int)).toNat = 1 from rfl] at hx128072_0)
                   have hn128072_0 : ad128005.block ≠ gb128055 := Kd.foot_ne (fun W_ hk_ => (Kd.V_at HO_0.out).2.2 W_ (fun k_ hk hlt_ => hk_.2 k_ hlt_ (hk.2) (by simp))) (by omega) (by decide)
                   have hn128072_1 : ad128005.block ≠ gb128055 := Kd.foot_ne (fun W_ hk_ => (Kd.V_at HO_0.out).2.2 W_ (fun k_ hk hlt_ => hk_.2 k_ hlt_ (hk.2) (by simp))) (by omega) (by decide)
                   replace hx128072_0 := (cell_far (p := ⟨gb128055, 0, none⟩) (by first | (rw [add_block]; exact hn128072_0) | (show (Addr.add _ _).block ≠ _; rw [add_block]; exact hn128072_0) | exact hn128072_0) (.int .u8 ((rd_T161 gtab1 (ji45)).f0))).trans hx128072_0
                   replace hx128072_0 := (cell_far (p := ⟨gb128055, 1, none⟩) (by first | (rw [add_block]; exact hn128072_1) | (show (Addr.add _ _).block ≠ _; rw [add_block]; exact hn128072_1) | exact hn128072_1) (.int .u8 ((rd_T161 gtab1 (ji45)).f1))).trans hx128072_0
                   (try have hy128072_0 := fun (n_ : Nat) => (show ((((w82.drewN n_).setCell ⟨gb128055, 0, none⟩ (.int .u8 ((rd_T161 gtab1 (ji45)).f0))).setCell ⟨gb128055, 1, none⟩ (.int .u8 ((rd_T161 gtab1 (ji45)).f1)))).cell? _ = some _ from hx128072_0))
                   clear hn128072_0
                   clear hn128072_1
                   replace p128072 := eq_true p128072
                   replace q128072 := eq_true q128072
                   have hcz89_0 : w82.cell? ⟨gb128055, 0, none⟩ = some (.int .u8 0) := (blk_cell BK128055.out 0).trans rfl
                   have hcz89_1 : w82.cell? ⟨gb128055, 1, none⟩ = some (.int .u8 0) := (blk_cell BK128055.out 1).trans rfl
                   have hfz89_0 := blk_frozen BK128055.out 0
                   have hfz89_1 := blk_frozen BK128055.out 1
                   have p128073 : 0 ≤ (1 : Int) := (by omega)
                   have q128073 : 1 < (x0_1.length : Int) := odt
                   obtain ⟨ad128073, e128073, hx128073_0⟩ := Kd.at_int (Kd.V_reads' HO_0.out).2.2 1 p128073 q128073
                   obtain rfl : ad128005 = ad128073 := (by injection e128073)
                   (try simp only [show (1 : Int).toNat = 1 from rfl, Nat.reduceMul, Nat.reduceEqDiff, Go.Addr.add, ↓reduceIte] at hx128073_0)
                   have qi128073 : (1 < x0_1.length) = True := eq_true (by omega)
                   (try rw [show ((1 : Int)).toNat = 1 from rfl] at hx128073_0)
                   have hn128073_0 : ad128005.block ≠ gb128055 := Kd.foot_ne (fun W_ hk_ => (Kd.V_at HO_0.out).2.2 W_ (fun k_ hk hlt_ => hk_.2 k_ hlt_ (hk.2) (by simp))) (by omega) (by decide)
                   have hn128073_1 : ad128005.block ≠ gb128055 := Kd.foot_ne (fun W_ hk_ => (Kd.V_at HO_0.out).2.2 W_ (fun k_ hk hlt_ => hk_.2 k_ hlt_ (hk.2) (by simp))) (by omega) (by decide)
                   replace hx128073_0 := (cell_far (p := ⟨gb128055, 0, none⟩) (by first | (rw [add_block]; exact hn128073_0) | (show (Addr.add _ _).block ≠ _; rw [add_block]; exact hn128073_0) | exact hn128073_0) (.int .u8 ((rd_T161 gtab1 (ji45)).f0))).trans hx128073_0
                   replace hx128073_0 := (cell_far (p := ⟨gb128055, 1, none⟩) (by first | (rw [add_block]; exact hn128073_1) | (show (Addr.add _ _).block ≠ _; rw [add_block]; exact hn128073_1) | exact hn128073_1) (.int .u8 ((rd_T161 gtab1 (ji45)).f1))).trans hx128073_0
                   (try have hy128073_0 := fun (n_ : Nat) => (show ((((w82.drewN n_).setCell ⟨gb128055, 0, none⟩ (.int .u8 ((rd_T161 gtab1 (ji45)).f0))).setCell ⟨gb128055, 1, none⟩ (.int .u8 ((rd_T161 gtab1 (ji45)).f1)))).cell? _ = some _ from hx128073_0))
                   clear hn128073_0
                   clear hn128073_1
                   replace p128073 := eq_true p128073
                   replace q128073 := eq_true q128073
                   go_wp2
                   repeat (go_quiet (fail); try go_wp2)
                   go_meet
                   case rel => exact ⟨_, (true), rfs, H', ⟨by have := HK1.out; first | omega | exact Nat.le_refl _⟩, ⟨by (with_reducible repeat (first | apply Kd.V_alloc | apply Kd.V_drewN | apply Kd.V_drew)); exact Kd.V_mono (Kd.V_far (p := ⟨gb128055, 1, none⟩) (Kd.V_far (p := ⟨gb128055, 0, none⟩) (Kd.V_mono HO_0.out (fun k_ hk => (⟨hk, hk.2⟩ : _ ∧ k_ ≠ gb128055))) (fun _ hk => hk.2) (.int .u8 ((rd_T161 gtab1 (ji45)).f0))) (fun _ hk => hk.2) (.int .u8 ((rd_T161 gtab1 (ji45)).f1))) (fun _ hk => ⟨hk.1.1, hk.1.2⟩)⟩, ⟨by refine pB ?_; refine blk_put (cs := #[.int .u8 ((rd_T161 gtab1 (ji45)).f0), .int .u8 0]) ?_ 1 _ rfl; refine pB ?_; refine blk_put (cs := #[.int .u8 0, .int .u8 0]) ?_ 0 _ rfl; refine pB ?_; exact BK128055.out⟩, ⟨hbs⟩⟩
                  ·rw [if_neg c88] at H
                   have c88b0 : decide (((rd_T161 gtab1 (ji45)).f1) < (rd x0_1 1)) = false := decide_eq_false c88
                   clear c88
                   by_cases c90 : 2 < (x0_1.length : Int)
                   ·rw [if_pos c90] at H
                    have c90b0 : decide (2 < (x0_1.length : Int)) = true := decide_eq_true c90
                    have c90b1 : decide (2 < x0_1.length) = true := decide_eq_true (by omega)
                    clear c90
                    by_cases c91 : (rd x0_1 2) < 128
                    ·rw [if_pos c91] at H
                     have c91b0 : decide ((rd x0_1 2) < 128) = true := decide_eq_true c91
                     clear c91
                     have H' := Aside0.mk H
                     clear H
                     have p128072 : 0 ≤ (1 : Int) := (by omega)
                     have q128072 : 1 < (x0_1.length : Int) := odt
                     obtain ⟨ad128072, e128072, hx128072_0⟩ := Kd.at_int (Kd.V_reads' HO_0.out).2.2 1 p128072 q128072
                     obtain rfl : ad128005 = ad128072 := (by injection e128072)
                     (try simp only [show (1 : Int).toNat = 1 from rfl, Nat.reduceMul, Nat.reduceEqDiff, Go.Addr.add, ↓reduceIte] at hx128072_0)
                     have qi128072 : (1 < x0_1.length) = True := eq_true (by omega)
                     (try rw [show ((1 : Int)).toNat = 1 from rfl] at hx128072_0)
                     have hn128072_0 : ad128005.block ≠ gb128055 := Kd.foot_ne (fun W_ hk_ => (Kd.V_at HO_0.out).2.2 W_ (fun k_ hk hlt_ => hk_.2 k_ hlt_ (hk.2) (by simp))) (by omega) (by decide)
                     have hn128072_1 : ad128005.block ≠ gb128055 := Kd.foot_ne (fun W_ hk_ => (Kd.V_at HO_0.out).2.2 W_ (fun k_ hk hlt_ => hk_.2 k_ hlt_ (hk.2) (by simp))) (by omega) (by decide)
                     replace hx128072_0 := (cell_far (p := ⟨gb128055, 0, none⟩) (by first | (rw [add_block]; exact hn128072_0) | (show (Addr.add _ _).block ≠ _; rw [add_block]; exact hn128072_0) | exact hn128072_0) (.int .u8 ((rd_T161 gtab1 (ji45)).f0))).trans hx128072_0
                     replace hx128072_0 := (cell_far (p := ⟨gb128055, 1, none⟩) (by first | (rw [add_block]; exact hn128072_1) | (show (Addr.add _ _).block ≠ _; rw [add_block]; exact hn128072_1) | exact hn128072_1) (.int .u8 ((rd_T161 gtab1 (ji45)).f1))).trans hx128072_0
                     (try have hy128072_0 := fun (n_ : Nat) => (show ((((w82.drewN n_).setCell ⟨gb128055, 0, none⟩ (.int .u8 ((rd_T161 gtab1 (ji45)).f0))).setCell ⟨gb128055, 1, none⟩ (.int .u8 ((rd_T161 gtab1 (ji45)).f1)))).cell? _ = some _ from hx128072_0))
                     clear hn128072_0
                     clear hn128072_1
                     replace p128072 := eq_true p128072
                     replace q128072 := eq_true q128072
                     have hcz92_0 : w82.cell? ⟨gb128055, 0, none⟩ = some (.int .u8 0) := (blk_cell BK128055.out 0).trans rfl
                     have hcz92_1 : w82.cell? ⟨gb128055, 1, none⟩ = some (.int .u8 0) := (blk_cell BK128055.out 1).trans rfl
                     have hfz92_0 := blk_frozen BK128055.out 0
                     have hfz92_1 := blk_frozen BK128055.out 1
                     have p128073 : 0 ≤ (1 : Int) := (by omega)
                     have q128073 : 1 < (x0_1.length : Int) := odt
                     obtain ⟨ad128073, e128073, hx128073_0⟩ := Kd.at_int (Kd.V_reads' HO_0.out).2.2 1 p128073 q128073
                     obtain rfl : ad128005 = ad128073 := (by injection e128073)
                     (try simp only [show (1 : Int).toNat = 1 from rfl, Nat.reduceMul, Nat.reduceEqDiff, Go.Addr.add, ↓reduceIte] at hx128073_0)
                     have qi128073 : (1 < x0_1.length) = True := eq_true (by omega)
                     (try rw [show ((1 : Int)).toNat = 1 from rfl] at hx128073_0)
                     have hn128073_0 : ad128005.block ≠ gb128055 := Kd.foot_ne (fun W_ hk_ => (Kd.V_at HO_0.out).2.2 W_ (fun k_ hk hlt_ => hk_.2 k_ hlt_ (hk.2) (by simp))) (by omega) (by decide)
                     have hn128073_1 : ad128005.block ≠ gb128055 := Kd.foot_ne (fun W_ hk_ => (Kd.V_at HO_0.out).2.2 W_ (fun k_ hk hlt_ => hk_.2 k_ hlt_ (hk.2) (by simp))) (by omega) (by decide)
                     replace hx128073_0 := (cell_far (p := ⟨gb128055, 0, none⟩) (by first | (rw [add_block]; exact hn128073_0) | (show (Addr.add _ _).block ≠ _; rw [add_block]; exact hn128073_0) | exact hn128073_0) (.int .u8 ((rd_T161 gtab1 (ji45)).f0))).trans hx128073_0
                     replace hx128073_0 := (cell_far (p := ⟨gb128055, 1, none⟩) (by first | (rw [add_block]; exact hn128073_1) | (show (Addr.add _ _).block ≠ _; rw [add_block]; exact hn128073_1) | exact hn128073_1) (.int .u8 ((rd_T161 gtab1 (ji45)).f1))).trans hx128073_0
                     (try have hy128073_0 := fun (n_ : Nat) => (show ((((w82.drewN n_).setCell ⟨gb128055, 0, none⟩ (.int .u8 ((rd_T161 gtab1 (ji45)).f0))).setCell ⟨gb128055, 1, none⟩ (.int .u8 ((rd_T161 gtab1 (ji45)).f1)))).cell? _ = some _ from hx128073_0))
                     clear hn128073_0
                     clear hn128073_1
                     replace p128073 := eq_true p128073
                     replace q128073 := eq_true q128073
                     have p128074 : 0 ≤ (2 : Int) := (by omega)
                     have q128074 : 2 < (x0_1.length : Int) := odt
                     obtain ⟨ad128074, e128074, hx128074_0⟩ := Kd.at_int (Kd.V_reads' HO_0.out).2.2 2 p128074 q128074
                     obtain rfl : ad128005 = ad128074 := (by injection e128074)
                     (try simp only [show (2 : Int).toNat = 2 from rfl, Nat.reduceMul, Nat.reduceEqDiff, Go.Addr.add, ↓reduceIte] at hx128074_0)
                     have qi128074 : (2 < x0_1.length) = True := eq_true (by omega)
                     (try rw [show ((2 : Int)).toNat = 2 from rfl] at hx128074_0)
                     have hn128074_0 : ad128005.block ≠ gb128055 := Kd.foot_ne (fun W_ hk_ => (Kd.V_at HO_0.out).2.2 W_ (fun k_ hk hlt_ => hk_.2 k_ hlt_ (hk.2) (by simp))) (by omega) (by decide)
                     have hn128074_1 : ad128005.block ≠ gb128055 := Kd.foot_ne (fun W_ hk_ => (Kd.V_at HO_0.out).2.2 W_ (fun k_ hk hlt_ => hk_.2 k_ hlt_ (hk.2) (by simp))) (by omega) (by decide)
                     replace hx128074_0 := (cell_far (p := ⟨gb128055, 0, none⟩) (by first | (rw [add_block]; exact hn128074_0) | (show (Addr.add _ _).block ≠ _; rw [add_block]; exact hn128074_0) | exact hn128074_0) (.int .u8 ((rd_T161 gtab1 (ji45)).f0))).trans hx128074_0
                     replace hx128074_0 := (cell_far (p := ⟨gb128055, 1, none⟩) (by first | (rw [add_block]; exact hn128074_1) | (show (Addr.add _ _).block ≠ _; rw [add_block]; exact hn128074_1) | exact hn128074_1) (.int .u8 ((rd_T161 gtab1 (ji45)).f1))).trans hx128074_0
                     (try have hy128074_0 := fun (n_ : Nat) => (show ((((w82.drewN n_).setCell ⟨gb128055, 0, none⟩ (.int .u8 ((rd_T161 gtab1 (ji45)).f0))).setCell ⟨gb128055, 1, none⟩ (.int .u8 ((rd_T161 gtab1 (ji45)).f1)))).cell? _ = some _ from hx128074_0))
                     clear hn128074_0
                     clear hn128074_1
                     replace p128074 := eq_true p128074
                     replace q128074 := eq_true q128074
                     go_wp2
                     repeat (go_quiet (fail); try go_wp2)
                     go_meet
                     case rel => exact ⟨_, (true), rfs, H', ⟨by have := HK1.out; first | omega | exact Nat.le_refl _⟩, ⟨by (with_reducible repeat (first | apply Kd.V_alloc | apply Kd.V_drewN | apply Kd.V_drew)); exact Kd.V_mono (Kd.V_far (p := ⟨gb128055, 1, none⟩) (Kd.V_far (p := ⟨gb128055, 0, none⟩) (Kd.V_mono HO_0.out (fun k_ hk => (⟨hk, hk.2⟩ : _ ∧ k_ ≠ gb128055))) (fun _ hk => hk.2) (.int .u8 ((rd_T161 gtab1 (ji45)).f0))) (fun _ hk => hk.2) (.int .u8 ((rd_T161 gtab1 (ji45)).f1))) (fun _ hk => ⟨hk.1.1, hk.1.2⟩)⟩, ⟨by refine pB ?_; refine blk_put (cs := #[.int .u8 ((rd_T161 gtab1 (ji45)).f0), .int .u8 0]) ?_ 1 _ rfl; refine pB ?_; refine blk_put (cs := #[.int .u8 0, .int .u8 0]) ?_ 0 _ rfl; refine pB ?_; exact BK128055.out⟩, ⟨hbs⟩⟩
                    ·rw [if_neg c91] at H
                     have c91b0 : decide ((rd x0_1 2) < 128) = false := decide_eq_false c91
                     clear c91
                     by_cases c93 : 191 < (rd x0_1 2)
                     ·rw [if_pos c93] at H
                      have c93b0 : decide (191 < (rd x0_1 2)) = true := decide_eq_true c93
                      clear c93
                      have H' := Aside0.mk H
                      clear H
                      have p128072 : 0 ≤ (1 : Int) := (by omega)
                      have q128072 : 1 < (x0_1.length : Int) := odt
                      obtain ⟨ad128072, e128072, hx128072_0⟩ := Kd.at_int (Kd.V_reads' HO_0.out).2.2 1 p128072 q128072
                      obtain rfl : ad128005 = ad128072 := (by injection e128072)
                      (try simp only [show (1 : Int).toNat = 1 from rfl, Nat.reduceMul, Nat.reduceEqDiff, Go.Addr.add, ↓reduceIte] at hx128072_0)
                      have qi128072 : (1 < x0_1.length) = True := eq_true (by omega)
                      (try rw [show ((1 : Int)).toNat = 1 from rfl] at hx128072_0)
                      have hn128072_0 : ad128005.block ≠ gb128055 := Kd.foot_ne (fun W_ hk_ => (Kd.V_at HO_0.out).2.2 W_ (fun k_ hk hlt_ => hk_.2 k_ hlt_ (hk.2) (by simp))) (by omega) (by decide)
                      have hn128072_1 : ad128005.block ≠ gb128055 := Kd.foot_ne (fun W_ hk_ => (Kd.V_at HO_0.out).2.2 W_ (fun k_ hk hlt_ => hk_.2 k_ hlt_ (hk.2) (by simp))) (by omega) (by decide)
                      replace hx128072_0 := (cell_far (p := ⟨gb128055, 0, none⟩) (by first | (rw [add_block]; exact hn128072_0) | (show (Addr.add _ _).block ≠ _; rw [add_block]; exact hn128072_0) | exact hn128072_0) (.int .u8 ((rd_T161 gtab1 (ji45)).f0))).trans hx128072_0
                      replace hx128072_0 := (cell_far (p := ⟨gb128055, 1, none⟩) (by first | (rw [add_block]; exact hn128072_1) | (show (Addr.add _ _).block ≠ _; rw [add_block]; exact hn128072_1) | exact hn128072_1) (.int .u8 ((rd_T161 gtab1 (ji45)).f1))).trans hx128072_0
                      (try have hy128072_0 := fun (n_ : Nat) => (show ((((w82.drewN n_).setCell ⟨gb128055, 0, none⟩ (.int .u8 ((rd_T161 gtab1 (ji45)).f0))).setCell ⟨gb128055, 1, none⟩ (.int .u8 ((rd_T161 gtab1 (ji45)).f1)))).cell? _ = some _ from hx128072_0))
                      clear hn128072_0
                      clear hn128072_1
                      replace p128072 := eq_true p128072
                      replace q128072 := eq_true q128072
                      have hcz94_0 : w82.cell? ⟨gb128055, 0, none⟩ = some (.int .u8 0) := (blk_cell BK128055.out 0).trans rfl
                      have hcz94_1 : w82.cell? ⟨gb128055, 1, none⟩ = some (.int .u8 0) := (blk_cell BK128055.out 1).trans rfl
                      have hfz94_0 := blk_frozen BK128055.out 0
                      have hfz94_1 := blk_frozen BK128055.out 1
                      have p128073 : 0 ≤ (1 : Int) := (by omega)
                      have q128073 : 1 < (x0_1.length : Int) := odt
                      obtain ⟨ad128073, e128073, hx128073_0⟩ := Kd.at_int (Kd.V_reads' HO_0.out).2.2 1 p128073 q128073
                      obtain rfl : ad128005 = ad128073 := (by injection e128073)
                      (try simp only [show (1 : Int).toNat = 1 from rfl, Nat.reduceMul, Nat.reduceEqDiff, Go.Addr.add, ↓reduceIte] at hx128073_0)
                      have qi128073 : (1 < x0_1.length) = True := eq_true (by omega)
                      (try rw [show ((1 : Int)).toNat = 1 from rfl] at hx128073_0)
                      have hn128073_0 : ad128005.block ≠ gb128055 := Kd.foot_ne (fun W_ hk_ => (Kd.V_at HO_0.out).2.2 W_ (fun k_ hk hlt_ => hk_.2 k_ hlt_ (hk.2) (by simp))) (by omega) (by decide)
                      have hn128073_1 : ad128005.block ≠ gb128055 := Kd.foot_ne (fun W_ hk_ => (Kd.V_at HO_0.out).2.2 W_ (fun k_ hk hlt_ => hk_.2 k_ hlt_ (hk.2) (by simp))) (by omega) (by decide)
                      replace hx128073_0 := (cell_far (p := ⟨gb128055, 0, none⟩) (by first | (rw [add_block]; exact hn128073_0) | (show (Addr.add _ _).block ≠ _; rw [add_block]; exact hn128073_0) | exact hn128073_0) (.int .u8 ((rd_T161 gtab1 (ji45)).f0))).trans hx128073_0
                      replace hx128073_0 := (cell_far (p := ⟨gb128055, 1, none⟩) (by first | (rw [add_block]; exact hn128073_1) | (show (Addr.add _ _).block ≠ _; rw [add_block]; exact hn128073_1) | exact hn128073_1) (.int .u8 ((rd_T161 gtab1 (ji45)).f1))).trans hx128073_0
                      (try have hy128073_0 := fun (n_ : Nat) => (show ((((w82.drewN n_).setCell ⟨gb128055, 0, none⟩ (.int .u8 ((rd_T161 gtab1 (ji45)).f0))).setCell ⟨gb128055, 1, none⟩ (.int .u8 ((rd_T161 gtab1 (ji45)).f1)))).cell? _ = some _ from hx128073_0))
                      clear hn128073_0
                      clear hn128073_1
                      replace p128073 := eq_true p128073
                      replace q128073 := eq_true q128073
                      have p128074 : 0 ≤ (2 : Int) := (by omega)
                      have q128074 : 2 < (x0_1.length : Int) := odt
                      obtain ⟨ad128074, e128074, hx128074_0⟩ := Kd.at_int (Kd.V_reads' HO_0.out).2.2 2 p128074 q128074
                      obtain rfl : ad128005 = ad128074 := (by injection e128074)
                      (try simp only [show (2 : Int).toNat = 2 from rfl, Nat.reduceMul, Nat.reduceEqDiff, Go.Addr.add, ↓reduceIte] at hx128074_0)
                      have qi128074 : (2 < x0_1.length) = True := eq_true (by omega)
                      (try rw [show ((2 : Int)).toNat = 2 from rfl] at hx128074_0)
                      have hn128074_0 : ad128005.block ≠ gb128055 := Kd.foot_ne (fun W_ hk_ => (Kd.V_at HO_0.out).2.2 W_ (fun k_ hk hlt_ => hk_.2 k_ hlt_ (hk.2) (by simp))) (by omega) (by decide)
                      have hn128074_1 : ad128005.block ≠ gb128055 := Kd.foot_ne (fun W_ hk_ => (Kd.V_at HO_0.out).2.2 W_ (fun k_ hk hlt_ => hk_.2 k_ hlt_ (hk.2) (by simp))) (by omega) (by decide)
                      replace hx128074_0 := (cell_far (p := ⟨gb128055, 0, none⟩) (by first | (rw [add_block]; exact hn128074_0) | (show (Addr.add _ _).block ≠ _; rw [add_block]; exact hn128074_0) | exact hn128074_0) (.int .u8 ((rd_T161 gtab1 (ji45)).f0))).trans hx128074_0
                      replace hx128074_0 := (cell_far (p := ⟨gb128055, 1, none⟩) (by first | (rw [add_block]; exact hn128074_1) | (show (Addr.add _ _).block ≠ _; rw [add_block]; exact hn128074_1) | exact hn128074_1) (.int .u8 ((rd_T161 gtab1 (ji45)).f1))).trans hx128074_0
                      (try have hy128074_0 := fun (n_ : Nat) => (show ((((w82.drewN n_).setCell ⟨gb128055, 0, none⟩ (.int .u8 ((rd_T161 gtab1 (ji45)).f0))).setCell ⟨gb128055, 1, none⟩ (.int .u8 ((rd_T161 gtab1 (ji45)).f1)))).cell? _ = some _ from hx128074_0))
                      clear hn128074_0
                      clear hn128074_1
                      replace p128074 := eq_true p128074
                      replace q128074 := eq_true q128074
                      have p128075 : 0 ≤ (2 : Int) := (by omega)
                      have q128075 : 2 < (x0_1.length : Int) := odt
                      obtain ⟨ad128075, e128075, hx128075_0⟩ := Kd.at_int (Kd.V_reads' HO_0.out).2.2 2 p128075 q128075
                      obtain rfl : ad128005 = ad128075 := (by injection e128075)
                      (try simp only [show (2 : Int).toNat = 2 from rfl, Nat.reduceMul, Nat.reduceEqDiff, Go.Addr.add, ↓reduceIte] at hx128075_0)
                      have qi128075 : (2 < x0_1.length) = True := eq_true (by omega)
                      (try rw [show ((2 : Int)).toNat = 2 from rfl] at hx128075_0)
                      have hn128075_0 : ad128005.block ≠ gb128055 := Kd.foot_ne (fun W_ hk_ => (Kd.V_at HO_0.out).2.2 W_ (fun k_ hk hlt_ => hk_.2 k_ hlt_ (hk.2) (by simp))) (by omega) (by decide)
                      have hn128075_1 : ad128005.block ≠ gb128055 := Kd.foot_ne (fun W_ hk_ => (Kd.V_at HO_0.out).2.2 W_ (fun k_ hk hlt_ => hk_.2 k_ hlt_ (hk.2) (by simp))) (by omega) (by decide)
                      replace hx128075_0 := (cell_far (p := ⟨gb128055, 0, none⟩) (by first | (rw [add_block]; exact hn128075_0) | (show (Addr.add _ _).block ≠ _; rw [add_block]; exact hn128075_0) | exact hn128075_0) (.int .u8 ((rd_T161 gtab1 (ji45)).f0))).trans hx128075_0
                      replace hx128075_0 := (cell_far (p := ⟨gb128055, 1, none⟩) (by first | (rw [add_block]; exact hn128075_1) | (show (Addr.add _ _).block ≠ _; rw [add_block]; exact hn128075_1) | exact hn128075_1) (.int .u8 ((rd_T161 gtab1 (ji45)).f1))).trans hx128075_0
                      (try have hy128075_0 := fun (n_ : Nat) => (show ((((w82.drewN n_).setCell ⟨gb128055, 0, none⟩ (.int .u8 ((rd_T161 gtab1 (ji45)).f0))).setCell ⟨gb128055, 1, none⟩ (.int .u8 ((rd_T161 gtab1 (ji45)).f1)))).cell? _ = some _ from hx128075_0))
                      clear hn128075_0
                      clear hn128075_1
                      replace p128075 := eq_true p128075
                      replace q128075 := eq_true q128075
                      go_wp2
                      repeat (go_quiet (fail); try go_wp2)
                      go_meet
                      case rel => exact ⟨_, (true), rfs, H', ⟨by have := HK1.out; first | omega | exact Nat.le_refl _⟩, ⟨by (with_reducible repeat (first | apply Kd.V_alloc | apply Kd.V_drewN | apply Kd.V_drew)); exact Kd.V_mono (Kd.V_far (p := ⟨gb128055, 1, none⟩) (Kd.V_far (p := ⟨gb128055, 0, none⟩) (Kd.V_mono HO_0.out (fun k_ hk => (⟨hk, hk.2⟩ : _ ∧ k_ ≠ gb128055))) (fun _ hk => hk.2) (.int .u8 ((rd_T161 gtab1 (ji45)).f0))) (fun _ hk => hk.2) (.int .u8 ((rd_T161 gtab1 (ji45)).f1))) (fun _ hk => ⟨hk.1.1, hk.1.2⟩)⟩, ⟨by refine pB ?_; refine blk_put (cs := #[.int .u8 ((rd_T161 gtab1 (ji45)).f0), .int .u8 0]) ?_ 1 _ rfl; refine pB ?_; refine blk_put (cs := #[.int .u8 0, .int .u8 0]) ?_ 0 _ rfl; refine pB ?_; exact BK128055.out⟩, ⟨hbs⟩⟩
                     ·rw [if_neg c93] at H
                      have c93b0 : decide (191 < (rd x0_1 2)) = false := decide_eq_false c93
                      clear c93
                      by_cases c95 : 3 < (x0_1.length : Int)
                      ·rw [if_pos c95] at H
                       have c95b0 : decide (3 < (x0_1.length : Int)) = true := decide_eq_true c95
                       have c95b1 : decide (3 < x0_1.length) = true := decide_eq_true (by omega)
                       clear c95
                       by_cases c96 : (rd x0_1 3) < 128
                       ·rw [if_pos c96] at H
                        have c96b0 : decide ((rd x0_1 3) < 128) = true := decide_eq_true c96
                        clear c96
                        have H' := Aside0.mk H
                        clear H
                        have p128072 : 0 ≤ (1 : Int) := (by omega)
                        have q128072 : 1 < (x0_1.length : Int) := odt
                        obtain ⟨ad128072, e128072, hx128072_0⟩ := Kd.at_int (Kd.V_reads' HO_0.out).2.2 1 p128072 q128072
                        obtain rfl : ad128005 = ad128072 := (by injection e128072)
                        (try simp only [show (1 : Int).toNat = 1 from rfl, Nat.reduceMul, Nat.reduceEqDiff, Go.Addr.add, ↓reduceIte] at hx128072_0)
                        have qi128072 : (1 < x0_1.length) = True := eq_true (by omega)
                        (try rw [show ((1 : Int)).toNat = 1 from rfl] at hx128072_0)
                        have hn128072_0 : ad128005.block ≠ gb128055 := Kd.foot_ne (fun W_ hk_ => (Kd.V_at HO_0.out).2.2 W_ (fun k_ hk hlt_ => hk_.2 k_ hlt_ (hk.2) (by simp))) (by omega) (by decide)
                        have hn128072_1 : ad128005.block ≠ gb128055 := Kd.foot_ne (fun W_ hk_ => (Kd.V_at HO_0.out).2.2 W_ (fun k_ hk hlt_ => hk_.2 k_ hlt_ (hk.2) (by simp))) (by omega) (by decide)
                        replace hx128072_0 := (cell_far (p := ⟨gb128055, 0, none⟩) (by first | (rw [add_block]; exact hn128072_0) | (show (Addr.add _ _).block ≠ _; rw [add_block]; exact hn128072_0) | exact hn128072_0) (.int .u8 ((rd_T161 gtab1 (ji45)).f0))).trans hx128072_0
                        replace hx128072_0 := (cell_far (p := ⟨gb128055, 1, none⟩) (by first | (rw [add_block]; exact hn128072_1) | (show (Addr.add _ _).block ≠ _; rw [add_block]; exact hn128072_1) | exact hn128072_1) (.int .u8 ((rd_T161 gtab1 (ji45)).f1))).trans hx128072_0
                        (try have hy128072_0 := fun (n_ : Nat) => (show ((((w82.drewN n_).setCell ⟨gb128055, 0, none⟩ (.int .u8 ((rd_T161 gtab1 (ji45)).f0))).setCell ⟨gb128055, 1, none⟩ (.int .u8 ((rd_T161 gtab1 (ji45)).f1)))).cell? _ = some _ from hx128072_0))
                        clear hn128072_0
                        clear hn128072_1
                        replace p128072 := eq_true p128072
                        replace q128072 := eq_true q128072
                        have hcz97_0 : w82.cell? ⟨gb128055, 0, none⟩ = some (.int .u8 0) := (blk_cell BK128055.out 0).trans rfl
                        have hcz97_1 : w82.cell? ⟨gb128055, 1, none⟩ = some (.int .u8 0) := (blk_cell BK128055.out 1).trans rfl
                        have hfz97_0 := blk_frozen BK128055.out 0
                        have hfz97_1 := blk_frozen BK128055.out 1
                        have p128073 : 0 ≤ (1 : Int) := (by omega)
                        have q128073 : 1 < (x0_1.length : Int) := odt
                        obtain ⟨ad128073, e128073, hx128073_0⟩ := Kd.at_int (Kd.V_reads' HO_0.out).2.2 1 p128073 q128073
                        obtain rfl : ad128005 = ad128073 := (by injection e128073)
                        (try simp only [show (1 : Int).toNat = 1 from rfl, Nat.reduceMul, Nat.reduceEqDiff, Go.Addr.add, ↓reduceIte] at hx128073_0)
                        have qi128073 : (1 < x0_1.length) = True := eq_true (by omega)
                        (try rw [show ((1 : Int)).toNat = 1 from rfl] at hx128073_0)
                        have hn128073_0 : ad128005.block ≠ gb128055 := Kd.foot_ne (fun W_ hk_ => (Kd.V_at HO_0.out).2.2 W_ (fun k_ hk hlt_ => hk_.2 k_ hlt_ (hk.2) (by simp))) (by omega) (by decide)
                        have hn128073_1 : ad128005.block ≠ gb128055 := Kd.foot_ne (fun W_ hk_ => (Kd.V_at HO_0.out).2.2 W_ (fun k_ hk hlt_ => hk_.2 k_ hlt_ (hk.2) (by simp))) (by omega) (by decide)
                        replace hx128073_0 := (cell_far (p := ⟨gb128055, 0, none⟩) (by first | (rw [add_block]; exact hn128073_0) | (show (Addr.add _ _).block ≠ _; rw [add_block]; exact hn128073_0) | exact hn128073_0) (.int .u8 ((rd_T161 gtab1 (ji45)).f0))).trans hx128073_0
                        replace hx128073_0 := (cell_far (p := ⟨gb128055, 1, none⟩) (by first | (rw [add_block]; exact hn128073_1) | (show (Addr.add _ _).block ≠ _; rw [add_block]; exact hn128073_1) | exact hn128073_1) (.int .u8 ((rd_T161 gtab1 (ji45)).f1))).trans hx128073_0
                        (try have hy128073_0 := fun (n_ : Nat) => (show ((((w82.drewN n_).setCell ⟨gb128055, 0, none⟩ (.int .u8 ((rd_T161 gtab1 (ji45)).f0))).setCell ⟨gb128055, 1, none⟩ (.int .u8 ((rd_T161 gtab1 (ji45)).f1)))).cell? _ = some _ from hx128073_0))
                        clear hn128073_0
                        clear hn128073_1
                        replace p128073 := eq_true p128073
                        replace q128073 := eq_true q128073
                        have p128074 : 0 ≤ (2 : Int) := (by omega)
                        have q128074 : 2 < (x0_1.length : Int) := odt
                        obtain ⟨ad128074, e128074, hx128074_0⟩ := Kd.at_int (Kd.V_reads' HO_0.out).2.2 2 p128074 q128074
                        obtain rfl : ad128005 = ad128074 := (by injection e128074)
                        (try simp only [show (2 : Int).toNat = 2 from rfl, Nat.reduceMul, Nat.reduceEqDiff, Go.Addr.add, ↓reduceIte] at hx128074_0)
                        have qi128074 : (2 < x0_1.length) = True := eq_true (by omega)
                        (try rw [show ((2 : Int)).toNat = 2 from rfl] at hx128074_0)
                        have hn128074_0 : ad128005.block ≠ gb128055 := Kd.foot_ne (fun W_ hk_ => (Kd.V_at HO_0.out).2.2 W_ (fun k_ hk hlt_ => hk_.2 k_ hlt_ (hk.2) (by simp))) (by omega) (by decide)
                        have hn128074_1 : ad128005.block ≠ gb128055 := Kd.foot_ne (fun W_ hk_ => (Kd.V_at HO_0.out).2.2 W_ (fun k_ hk hlt_ => hk_.2 k_ hlt_ (hk.2) (by simp))) (by omega) (by decide)
                        replace hx128074_0 := (cell_far (p := ⟨gb128055, 0, none⟩) (by first | (rw [add_block]; exact hn128074_0) | (show (Addr.add _ _).block ≠ _; rw [add_block]; exact hn128074_0) | exact hn128074_0) (.int .u8 ((rd_T161 gtab1 (ji45)).f0))).trans hx128074_0
                        replace hx128074_0 := (cell_far (p := ⟨gb128055, 1, none⟩) (by first | (rw [add_block]; exact hn128074_1) | (show (Addr.add _ _).block ≠ _; rw [add_block]; exact hn128074_1) | exact hn128074_1) (.int .u8 ((rd_T161 gtab1 (ji45)).f1))).trans hx128074_0
                        (try have hy128074_0 := fun (n_ : Nat) => (show ((((w82.drewN n_).setCell ⟨gb128055, 0, none⟩ (.int .u8 ((rd_T161 gtab1 (ji45)).f0))).setCell ⟨gb128055, 1, none⟩ (.int .u8 ((rd_T161 gtab1 (ji45)).f1)))).cell? _ = some _ from hx128074_0))
                        clear hn128074_0
                        clear hn128074_1
                        replace p128074 := eq_true p128074
                        replace q128074 := eq_true q128074
                        have p128075 : 0 ≤ (2 : Int) := (by omega)
                        have q128075 : 2 < (x0_1.length : Int) := odt
                        obtain ⟨ad128075, e128075, hx128075_0⟩ := Kd.at_int (Kd.V_reads' HO_0.out).2.2 2 p128075 q128075
                        obtain rfl : ad128005 = ad128075 := (by injection e128075)
                        (try simp only [show (2 : Int).toNat = 2 from rfl, Nat.reduceMul, Nat.reduceEqDiff, Go.Addr.add, ↓reduceIte] at hx128075_0)
                        have qi128075 : (2 < x0_1.length) = True := eq_true (by omega)
                        (try rw [show ((2 : Int)).toNat = 2 from rfl] at hx128075_0)
                        have hn128075_0 : ad128005.block ≠ gb128055 := Kd.foot_ne (fun W_ hk_ => (Kd.V_at HO_0.out).2.2 W_ (fun k_ hk hlt_ => hk_.2 k_ hlt_ (hk.2) (by simp))) (by omega) (by decide)
                        have hn128075_1 : ad128005.block ≠ gb128055 := Kd.foot_ne (fun W_ hk_ => (Kd.V_at HO_0.out).2.2 W_ (fun k_ hk hlt_ => hk_.2 k_ hlt_ (hk.2) (by simp))) (by omega) (by decide)
                        replace hx128075_0 := (cell_far (p := ⟨gb128055, 0, none⟩) (by first | (rw [add_block]; exact hn128075_0) | (show (Addr.add _ _).block ≠ _; rw [add_block]; exact hn128075_0) | exact hn128075_0) (.int .u8 ((rd_T161 gtab1 (ji45)).f0))).trans hx128075_0
                        replace hx128075_0 := (cell_far (p := ⟨gb128055, 1, none⟩) (by first | (rw [add_block]; exact hn128075_1) | (show (Addr.add _ _).block ≠ _; rw [add_block]; exact hn128075_1) | exact hn128075_1) (.int .u8 ((rd_T161 gtab1 (ji45)).f1))).trans hx128075_0
                        (try have hy128075_0 := fun (n_ : Nat) => (show ((((w82.drewN n_).setCell ⟨gb128055, 0, none⟩ (.int .u8 ((rd_T161 gtab1 (ji45)).f0))).setCell ⟨gb128055, 1, none⟩ (.int .u8 ((rd_T161 gtab1 (ji45)).f1)))).cell? _ = some _ from hx128075_0))
                        clear hn128075_0
                        clear hn128075_1
                        replace p128075 := eq_true p128075
                        replace q128075 := eq_true q128075
                        have p128076 : 0 ≤ (3 : Int) := (by omega)
                        have q128076 : 3 < (x0_1.length : Int) := odt
                        obtain ⟨ad128076, e128076, hx128076_0⟩ := Kd.at_int (Kd.V_reads' HO_0.out).2.2 3 p128076 q128076
                        obtain rfl : ad128005 = ad128076 := (by injection e128076)
                        (try simp only [show (3 : Int).toNat = 3 from rfl, Nat.reduceMul, Nat.reduceEqDiff, Go.Addr.add, ↓reduceIte] at hx128076_0)
                        have qi128076 : (3 < x0_1.length) = True := eq_true (by omega)
                        (try rw [show ((3 : Int)).toNat = 3 from rfl] at hx128076_0)
                        have hn128076_0 : ad128005.block ≠ gb128055 := Kd.foot_ne (fun W_ hk_ => (Kd.V_at HO_0.out).2.2 W_ (fun k_ hk hlt_ => hk_.2 k_ hlt_ (hk.2) (by simp))) (by omega) (by decide)
                        have hn128076_1 : ad128005.block ≠ gb128055 := Kd.foot_ne (fun W_ hk_ => (Kd.V_at HO_0.out).2.2 W_ (fun k_ hk hlt_ => hk_.2 k_ hlt_ (hk.2) (by simp))) (by omega) (by decide)
                        replace hx128076_0 := (cell_far (p := ⟨gb128055, 0, none⟩) (by first | (rw [add_block]; exact hn128076_0) | (show (Addr.add _ _).block ≠ _; rw [add_block]; exact hn128076_0) | exact hn128076_0) (.int .u8 ((rd_T161 gtab1 (ji45)).f0))).trans hx128076_0
                        replace hx128076_0 := (cell_far (p := ⟨gb128055, 1, none⟩) (by first | (rw [add_block]; exact hn128076_1) | (show (Addr.add _ _).block ≠ _; rw [add_block]; exact hn128076_1) | exact hn128076_1) (.int .u8 ((rd_T161 gtab1 (ji45)).f1))).trans hx128076_0
                        (try have hy128076_0 := fun (n_ : Nat) => (show ((((w82.drewN n_).setCell ⟨gb128055, 0, none⟩ (.int .u8 ((rd_T161 gtab1 (ji45)).f0))).setCell ⟨gb128055, 1, none⟩ (.int .u8 ((rd_T161 gtab1 (ji45)).f1)))).cell? _ = some _ from hx128076_0))
                        clear hn128076_0
                        clear hn128076_1
                        replace p128076 := eq_true p128076
                        replace q128076 := eq_true q128076
                        go_wp2
                        repeat (go_quiet (fail); try go_wp2)
                        go_meet
                        case rel => exact ⟨_, (true), rfs, H', ⟨by have := HK1.out; first | omega | exact Nat.le_refl _⟩, ⟨by (with_reducible repeat (first | apply Kd.V_alloc | apply Kd.V_drewN | apply Kd.V_drew)); exact Kd.V_mono (Kd.V_far (p := ⟨gb128055, 1, none⟩) (Kd.V_far (p := ⟨gb128055, 0, none⟩) (Kd.V_mono HO_0.out (fun k_ hk => (⟨hk, hk.2⟩ : _ ∧ k_ ≠ gb128055))) (fun _ hk => hk.2) (.int .u8 ((rd_T161 gtab1 (ji45)).f0))) (fun _ hk => hk.2) (.int .u8 ((rd_T161 gtab1 (ji45)).f1))) (fun _ hk => ⟨hk.1.1, hk.1.2⟩)⟩, ⟨by refine pB ?_; refine blk_put (cs := #[.int .u8 ((rd_T161 gtab1 (ji45)).f0), .int .u8 0]) ?_ 1 _ rfl; refine pB ?_; refine blk_put (cs := #[.int .u8 0, .int .u8 0]) ?_ 0 _ rfl; refine pB ?_; exact BK128055.out⟩, ⟨hbs⟩⟩
                       ·rw [if_neg c96] at H
                        have c96b0 : decide ((rd x0_1 3) < 128) = false := decide_eq_false c96
                        clear c96
                        have H' := Aside0.mk H
                        clear H
                        have p128072 : 0 ≤ (1 : Int) := (by omega)
                        have q128072 : 1 < (x0_1.length : Int) := odt
                        obtain ⟨ad128072, e128072, hx128072_0⟩ := Kd.at_int (Kd.V_reads' HO_0.out).2.2 1 p128072 q128072
                        obtain rfl : ad128005 = ad128072 := (by injection e128072)
                        (try simp only [show (1 : Int).toNat = 1 from rfl, Nat.reduceMul, Nat.reduceEqDiff, Go.Addr.add, ↓reduceIte] at hx128072_0)
                        have qi128072 : (1 < x0_1.length) = True := eq_true (by omega)
                        (try rw [show ((1 : Int)).toNat = 1 from rfl] at hx128072_0)
                        have hn128072_0 : ad128005.block ≠ gb128055 := Kd.foot_ne (fun W_ hk_ => (Kd.V_at HO_0.out).2.2 W_ (fun k_ hk hlt_ => hk_.2 k_ hlt_ (hk.2) (by simp))) (by omega) (by decide)
                        have hn128072_1 : ad128005.block ≠ gb128055 := Kd.foot_ne (fun W_ hk_ => (Kd.V_at HO_0.out).2.2 W_ (fun k_ hk hlt_ => hk_.2 k_ hlt_ (hk.2) (by simp))) (by omega) (by decide)
                        replace hx128072_0 := (cell_far (p := ⟨gb128055, 0, none⟩) (by first | (rw [add_block]; exact hn128072_0) | (show (Addr.add _ _).block ≠ _; rw [add_block]; exact hn128072_0) | exact hn128072_0) (.int .u8 ((rd_T161 gtab1 (ji45)).f0))).trans hx128072_0
                        replace hx128072_0 := (cell_far (p := ⟨gb128055, 1, none⟩) (by first | (rw [add_block]; exact hn128072_1) | (show (Addr.add _ _).block ≠ _; rw [add_block]; exact hn128072_1) | exact hn128072_1) (.int .u8 ((rd_T161 gtab1 (ji45)).f1))).trans hx128072_0
                        (try have hy128072_0 := fun (n_ : Nat) => (show ((((w82.drewN n_).setCell ⟨gb128055, 0, none⟩ (.int .u8 ((rd_T161 gtab1 (ji45)).f0))).setCell ⟨gb128055, 1, none⟩ (.int .u8 ((rd_T161 gtab1 (ji45)).f1)))).cell? _ = some _ from hx128072_0))
                        clear hn128072_0
                        clear hn128072_1
                        replace p128072 := eq_true p128072
                        replace q128072 := eq_true q128072
                        have hcz98_0 : w82.cell? ⟨gb128055, 0, none⟩ = some (.int .u8 0) := (blk_cell BK128055.out 0).trans rfl
                        have hcz98_1 : w82.cell? ⟨gb128055, 1, none⟩ = some (.int .u8 0) := (blk_cell BK128055.out 1).trans rfl
                        have hfz98_0 := blk_frozen BK128055.out 0
                        have hfz98_1 := blk_frozen BK128055.out 1
                        have p128073 : 0 ≤ (1 : Int) := (by omega)
                        have q128073 : 1 < (x0_1.length : Int) := odt
                        obtain ⟨ad128073, e128073, hx128073_0⟩ := Kd.at_int (Kd.V_reads' HO_0.out).2.2 1 p128073 q128073
                        obtain rfl : ad128005 = ad128073 := (by injection e128073)
                        (try simp only [show (1 : Int).toNat = 1 from rfl, Nat.reduceMul, Nat.reduceEqDiff, Go.Addr.add, ↓reduceIte] at hx128073_0)
                        have qi128073 : (1 < x0_1.length) = True := eq_true (by omega)
                        (try rw [show ((1 : Int)).toNat = 1 from rfl] at hx128073_0)
                        have hn128073_0 : ad128005.block ≠ gb128055 := Kd.foot_ne (fun W_ hk_ => (Kd.V_at HO_0.out).2.2 W_ (fun k_ hk hlt_ => hk_.2 k_ hlt_ (hk.2) (by simp))) (by omega) (by decide)
                        have hn128073_1 : ad128005.block ≠ gb128055 := Kd.foot_ne (fun W_ hk_ => (Kd.V_at HO_0.out).2.2 W_ (fun k_ hk hlt_ => hk_.2 k_ hlt_ (hk.2) (by simp))) (by omega) (by decide)
                        replace hx128073_0 := (cell_far (p := ⟨gb128055, 0, none⟩) (by first | (rw [add_block]; exact hn128073_0) | (show (Addr.add _ _).block ≠ _; rw [add_block]; exact hn128073_0) | exact hn128073_0) (.int .u8 ((rd_T161 gtab1 (ji45)).f0))).trans hx128073_0
                        replace hx128073_0 := (cell_far (p := ⟨gb128055, 1, none⟩) (by first | (rw [add_block]; exact hn128073_1) | (show (Addr.add _ _).block ≠ _; rw [add_block]; exact hn128073_1) | exact hn128073_1) (.int .u8 ((rd_T161 gtab1 (ji45)).f1))).trans hx128073_0
                        (try have hy128073_0 := fun (n_ : Nat) => (show ((((w82.drewN n_).setCell ⟨gb128055, 0, none⟩ (.int .u8 ((rd_T161 gtab1 (ji45)).f0))).setCell ⟨gb128055, 1, none⟩ (.int .u8 ((rd_T161 gtab1 (ji45)).f1)))).cell? _ = some _ from hx128073_0))
                        clear hn128073_0
                        clear hn128073_1
                        replace p128073 := eq_true p128073
                        replace q128073 := eq_true q128073
                        have p128074 : 0 ≤ (2 : Int) := (by omega)
                        have q128074 : 2 < (x0_1.length : Int) := odt
                        obtain ⟨ad128074, e128074, hx128074_0⟩ := Kd.at_int (Kd.V_reads' HO_0.out).2.2 2 p128074 q128074
                        obtain rfl : ad128005 = ad128074 := (by injection e128074)
                        (try simp only [show (2 : Int).toNat = 2 from rfl, Nat.reduceMul, Nat.reduceEqDiff, Go.Addr.add, ↓reduceIte] at hx128074_0)
                        have qi128074 : (2 < x0_1.length) = True := eq_true (by omega)
                        (try rw [show ((2 : Int)).toNat = 2 from rfl] at hx128074_0)
                        have hn128074_0 : ad128005.block ≠ gb128055 := Kd.foot_ne (fun W_ hk_ => (Kd.V_at HO_0.out).2.2 W_ (fun k_ hk hlt_ => hk_.2 k_ hlt_ (hk.2) (by simp))) (by omega) (by decide)
                        have hn128074_1 : ad128005.block ≠ gb128055 := Kd.foot_ne (fun W_ hk_ => (Kd.V_at HO_0.out).2.2 W_ (fun k_ hk hlt_ => hk_.2 k_ hlt_ (hk.2) (by simp))) (by omega) (by decide)
                        replace hx128074_0 := (cell_far (p := ⟨gb128055, 0, none⟩) (by first | (rw [add_block]; exact hn128074_0) | (show (Addr.add _ _).block ≠ _; rw [add_block]; exact hn128074_0) | exact hn128074_0) (.int .u8 ((rd_T161 gtab1 (ji45)).f0))).trans hx128074_0
                        replace hx128074_0 := (cell_far (p := ⟨gb128055, 1, none⟩) (by first | (rw [add_block]; exact hn128074_1) | (show (Addr.add _ _).block ≠ _; rw [add_block]; exact hn128074_1) | exact hn128074_1) (.int .u8 ((rd_T161 gtab1 (ji45)).f1))).trans hx128074_0
                        (try have hy128074_0 := fun (n_ : Nat) => (show ((((w82.drewN n_).setCell ⟨gb128055, 0, none⟩ (.int .u8 ((rd_T161 gtab1 (ji45)).f0))).setCell ⟨gb128055, 1, none⟩ (.int .u8 ((rd_T161 gtab1 (ji45)).f1)))).cell? _ = some _ from hx128074_0))
                        clear hn128074_0
                        clear hn128074_1
                        replace p128074 := eq_true p128074
                        replace q128074 := eq_true q128074
                        have p128075 : 0 ≤ (2 : Int) := (by omega)
                        have q128075 : 2 < (x0_1.length : Int) := odt
                        obtain ⟨ad128075, e128075, hx128075_0⟩ := Kd.at_int (Kd.V_reads' HO_0.out).2.2 2 p128075 q128075
                        obtain rfl : ad128005 = ad128075 := (by injection e128075)
                        (try simp only [show (2 : Int).toNat = 2 from rfl, Nat.reduceMul, Nat.reduceEqDiff, Go.Addr.add, ↓reduceIte] at hx128075_0)
                        have qi128075 : (2 < x0_1.length) = True := eq_true (by omega)
                        (try rw [show ((2 : Int)).toNat = 2 from rfl] at hx128075_0)
                        have hn128075_0 : ad128005.block ≠ gb128055 := Kd.foot_ne (fun W_ hk_ => (Kd.V_at HO_0.out).2.2 W_ (fun k_ hk hlt_ => hk_.2 k_ hlt_ (hk.2) (by simp))) (by omega) (by decide)
                        have hn128075_1 : ad128005.block ≠ gb128055 := Kd.foot_ne (fun W_ hk_ => (Kd.V_at HO_0.out).2.2 W_ (fun k_ hk hlt_ => hk_.2 k_ hlt_ (hk.2) (by simp))) (by omega) (by decide)
                        replace hx128075_0 := (cell_far (p := ⟨gb128055, 0, none⟩) (by first | (rw [add_block]; exact hn128075_0) | (show (Addr.add _ _).block ≠ _; rw [add_block]; exact hn128075_0) | exact hn128075_0) (.int .u8 ((rd_T161 gtab1 (ji45)).f0))).trans hx128075_0
                        replace hx128075_0 := (cell_far (p := ⟨gb128055, 1, none⟩) (by first | (rw [add_block]; exact hn128075_1) | (show (Addr.add _ _).block ≠ _; rw [add_block]; exact hn128075_1) | exact hn128075_1) (.int .u8 ((rd_T161 gtab1 (ji45)).f1))).trans hx128075_0
                        (try have hy128075_0 := fun (n_ : Nat) => (show ((((w82.drewN n_).setCell ⟨gb128055, 0, none⟩ (.int .u8 ((rd_T161 gtab1 (ji45)).f0))).setCell ⟨gb128055, 1, none⟩ (.int .u8 ((rd_T161 gtab1 (ji45)).f1)))).cell? _ = some _ from hx128075_0))
                        clear hn128075_0
                        clear hn128075_1
                        replace p128075 := eq_true p128075
                        replace q128075 := eq_true q128075
                        have p128076 : 0 ≤ (3 : Int) := (by omega)
                        have q128076 : 3 < (x0_1.length : Int) := odt
                        obtain ⟨ad128076, e128076, hx128076_0⟩ := Kd.at_int (Kd.V_reads' HO_0.out).2.2 3 p128076 q128076
                        obtain rfl : ad128005 = ad128076 := (by injection e128076)
                        (try simp only [show (3 : Int).toNat = 3 from rfl, Nat.reduceMul, Nat.reduceEqDiff, Go.Addr.add, ↓reduceIte] at hx128076_0)
                        have qi128076 : (3 < x0_1.length) = True := eq_true (by omega)
                        (try rw [show ((3 : Int)).toNat = 3 from rfl] at hx128076_0)
                        have hn128076_0 : ad128005.block ≠ gb128055 := Kd.foot_ne (fun W_ hk_ => (Kd.V_at HO_0.out).2.2 W_ (fun k_ hk hlt_ => hk_.2 k_ hlt_ (hk.2) (by simp))) (by omega) (by decide)
                        have hn128076_1 : ad128005.block ≠ gb128055 := Kd.foot_ne (fun W_ hk_ => (Kd.V_at HO_0.out).2.2 W_ (fun k_ hk hlt_ => hk_.2 k_ hlt_ (hk.2) (by simp))) (by omega) (by decide)
                        replace hx128076_0 := (cell_far (p := ⟨gb128055, 0, none⟩) (by first | (rw [add_block]; exact hn128076_0) | (show (Addr.add _ _).block ≠ _; rw [add_block]; exact hn128076_0) | exact hn128076_0) (.int .u8 ((rd_T161 gtab1 (ji45)).f0))).trans hx128076_0
                        replace hx128076_0 := (cell_far (p := ⟨gb128055, 1, none⟩) (by first | (rw [add_block]; exact hn128076_1) | (show (Addr.add _ _).block ≠ _; rw [add_block]; exact hn128076_1) | exact hn128076_1) (.int .u8 ((rd_T161 gtab1 (ji45)).f1))).trans hx128076_0
                        (try have hy128076_0 := fun (n_ : Nat) => (show ((((w82.drewN n_).setCell ⟨gb128055, 0, none⟩ (.int .u8 ((rd_T161 gtab1 (ji45)).f0))).setCell ⟨gb128055, 1, none⟩ (.int .u8 ((rd_T161 gtab1 (ji45)).f1)))).cell? _ = some _ from hx128076_0))
                        clear hn128076_0
                        clear hn128076_1
                        replace p128076 := eq_true p128076
                        replace q128076 := eq_true q128076
                        have p128077 : 0 ≤ (3 : Int) := (by omega)
                        have q128077 : 3 < (x0_1.length : Int) := odt
                        obtain ⟨ad128077, e128077, hx128077_0⟩ := Kd.at_int (Kd.V_reads' HO_0.out).2.2 3 p128077 q128077
                        obtain rfl : ad128005 = ad128077 := (by injection e128077)
                        (try simp only [show (3 : Int).toNat = 3 from rfl, Nat.reduceMul, Nat.reduceEqDiff, Go.Addr.add, ↓reduceIte] at hx128077_0)
                        have qi128077 : (3 < x0_1.length) = True := eq_true (by omega)
                        (try rw [show ((3 : Int)).toNat = 3 from rfl] at hx128077_0)
                        have hn128077_0 : ad128005.block ≠ gb128055 := Kd.foot_ne (fun W_ hk_ => (Kd.V_at HO_0.out).2.2 W_ (fun k_ hk hlt_ => hk_.2 k_ hlt_ (hk.2) (by simp))) (by omega) (by decide)
                        have hn128077_1 : ad128005.block ≠ gb128055 := Kd.foot_ne (fun W_ hk_ => (Kd.V_at HO_0.out).2.2 W_ (fun k_ hk hlt_ => hk_.2 k_ hlt_ (hk.2) (by simp))) (by omega) (by decide)
                        replace hx128077_0 := (cell_far (p := ⟨gb128055, 0, none⟩) (by first | (rw [add_block]; exact hn128077_0) | (show (Addr.add _ _).block ≠ _; rw [add_block]; exact hn128077_0) | exact hn128077_0) (.int .u8 ((rd_T161 gtab1 (ji45)).f0))).trans hx128077_0
                        replace hx128077_0 := (cell_far (p := ⟨gb128055, 1, none⟩) (by first | (rw [add_block]; exact hn128077_1) | (show (Addr.add _ _).block ≠ _; rw [add_block]; exact hn128077_1) | exact hn128077_1) (.int .u8 ((rd_T161 gtab1 (ji45)).f1))).trans hx128077_0
                        (try have hy128077_0 := fun (n_ : Nat) => (show ((((w82.drewN n_).setCell ⟨gb128055, 0, none⟩ (.int .u8 ((rd_T161 gtab1 (ji45)).f0))).setCell ⟨gb128055, 1, none⟩ (.int .u8 ((rd_T161 gtab1 (ji45)).f1)))).cell? _ = some _ from hx128077_0))
                        clear hn128077_0
                        clear hn128077_1
                        replace p128077 := eq_true p128077
                        replace q128077 := eq_true q128077
                        go_wp2
                        repeat (go_quiet (fail); try go_wp2)
                        go_meet
                        case rel => exact ⟨_, (decide (191 < (rd x0_1 3))), rfs, H', ⟨by have := HK1.out; first | omega | exact Nat.le_refl _⟩, ⟨by (with_reducible repeat (first | apply Kd.V_alloc | apply Kd.V_drewN | apply Kd.V_drew)); exact Kd.V_mono (Kd.V_far (p := ⟨gb128055, 1, none⟩) (Kd.V_far (p := ⟨gb128055, 0, none⟩) (Kd.V_mono HO_0.out (fun k_ hk => (⟨hk, hk.2⟩ : _ ∧ k_ ≠ gb128055))) (fun _ hk => hk.2) (.int .u8 ((rd_T161 gtab1 (ji45)).f0))) (fun _ hk => hk.2) (.int .u8 ((rd_T161 gtab1 (ji45)).f1))) (fun _ hk => ⟨hk.1.1, hk.1.2⟩)⟩, ⟨by refine pB ?_; refine blk_put (cs := #[.int .u8 ((rd_T161 gtab1 (ji45)).f0), .int .u8 0]) ?_ 1 _ rfl; refine pB ?_; refine blk_put (cs := #[.int .u8 0, .int .u8 0]) ?_ 0 _ rfl; refine pB ?_; exact BK128055.out⟩, ⟨hbs⟩⟩
                      ·rw [if_neg c95] at H
                       exact absurd H (by simp)
                   ·rw [if_neg c90] at H
                    exact absurd H (by simp)
                ·rw [if_neg c85] at H
                 exact absurd H (by simp)
              case rest =>
               clear HC80
               try clear c1
               try clear p1
               try clear q1
               try clear hx1
               try clear qi1
               try clear p2
               try clear q2
               try clear q3
               try clear q4
               try clear c6
               try clear p6
               try clear q6
               try clear c7
               try clear q7
               try clear c8
               try clear c9
               try clear q10
               try clear p12
               try clear q12
               try clear hx12
               try clear qi12
               try clear q16
               try clear q21
               try clear q24
               try clear q35
               try clear q36
               try clear q37
               try clear q41
               try clear q60
               try clear c61
               try clear c61b0
               try clear c61b1
               try clear p64
               try clear c76
               try clear c77
               try clear c77b0
               try clear c77b1
               try clear c78
               try clear q78
               try clear c79
               try clear c79b0
               try clear c79b1
               try clear c84
               try clear c84b0
               try clear c84b1
               try clear c85
               try clear c85b0
               try clear c85b1
               try clear c86
               try clear c86b0
               try clear c88
               try clear c88b0
               try clear c90
               try clear c90b0
               try clear c90b1
               try clear c91
               try clear c91b0
               try clear c93
               try clear c93b0
               try clear c95
               try clear c95b0
               try clear c95b1
               try clear c96
               try clear c96b0
               try clear hcz83_0
               try clear hcz83_1
               try clear hcz87_0
               try clear hcz87_1
               try clear hcz89_0
               try clear hcz89_1
               try clear hcz92_0
               try clear hcz92_1
               try clear hcz94_0
               try clear hcz94_1
               try clear hcz97_0
               try clear hcz97_1
               try clear hcz98_0
               try clear hcz98_1
               try clear hfz83_0
               try clear hfz83_1
               try clear hfz87_0
               try clear hfz87_1
               try clear hfz89_0
               try clear hfz89_1
               try clear hfz92_0
               try clear hfz92_1
               try clear hfz94_0
               try clear hfz94_1
               try clear hfz97_0
               try clear hfz97_1
               try clear hfz98_0
               try clear hfz98_1
               try clear hx128005_0
               try clear hx128053_0
               try clear hx128054_0
               try clear hx128054_1
               try clear hx128072_0
               try clear hx128073_0
               try clear hx128074_0
               try clear hx128075_0
               try clear hx128076_0
               try clear hx128077_0
               try clear p128005
               try clear p128053
               try clear p128054
               try clear p128063
               try clear p128064
               try clear p128065
               try clear p128066
               try clear p128072
               try clear p128073
               try clear p128074
               try clear p128075
               try clear p128076
               try clear p128077
               try clear p2
               try clear p6
               try clear q1
               try clear q10
               try clear q12
               try clear q128005
               try clear q128053
               try clear q128054
               try clear q128056
               try clear q128057
               try clear q128063
               try clear q128064
               try clear q128065
               try clear q128066
               try clear q128072
               try clear q128073
               try clear q128074
               try clear q128075
               try clear q128076
               try clear q128077
               try clear q16
               try clear q2
               try clear q21
               try clear q24
               try clear q3
               try clear q35
               try clear q36
               try clear q37
               try clear q4
               try clear q41
               try clear q60
               try clear q78
               obtain ⟨kq, x185_79, rfl, HA, HJ79, HO_0, BK128055, HB⟩ := hcut
               cases kq with
               | zero => exact absurd HA.out (by simp [utf8_Valid.j7])
               | succ kj79 =>
                have H := HA.out
                clear HA
                simp only [utf8_Valid.j7] at H
                by_cases c99 : x185_79 = true
                ·as_aux_lemma =>
                 subst c99
                 have H1 : (some false) = some r := by rw [if_pos rfl] at H; exact H
                 clear H
                 have H := H1
                 clear H1
                 obtain rfl := Option.some.inj H
                 go_wp2
                 repeat (go_quiet (fail); try go_wp2)
                 go_ret
                 exact ⟨by first | rfl | (simp [errW_none, errW_some] <;> rfl) | (simp only [← hji45]; first | rfl | (simp [errW_none, errW_some] <;> rfl)) | (simp [*, errW_none, errW_some] <;> rfl), hbs⟩
                ·as_aux_lemma =>
                 replace c99 := Bool.eq_false_iff.mpr c99
                 subst c99
                 have H1 : (if 4 ≤ (x0_1.length : Int) then (utf8_Valid.l0 kj79 (x0_1.drop 4)) else (none)) = some r := by rw [if_neg (show ¬ (false = true) by decide)] at H; exact H
                 clear H
                 have H := H1
                 clear H1
                 by_cases c100 : 4 ≤ (x0_1.length : Int)
                 ·rw [if_pos c100] at H
                  have c100b0 := eq_true c100
                  have c100b1 : decide (4 ≤ (x0_1.length : Int)) = true := decide_eq_true c100
                  clear c100
                  obtain ⟨y128078, hy128078⟩ : ∃ y_ : List Int, y_ = (x0_1.drop 4) := ⟨_, rfl⟩
                  replace H : (utf8_Valid.l0 kj79 y128078) = some r := repH hy128078 H
                  have Ny128078 := Aside0.mk hy128078
                  clear hy128078
                  have H' := Aside0.mk H
                  clear H
                  have q101 : (4 : Int) ≤ ((x0_1.length : Int) : Int) := odt
                  obtain ⟨i0101, hi0101, _, hsz101, _⟩ := info_parts info5
                  have hroom101 : x0_1.length ≤ co81 := (Kd.V_reads' HO_0.out).2.1
                  have hC101 : Kd.F (Kd.int .u8) _ _ (some ad128005) x0_1.length x0_1 := (Kd.V_at (base := w.heap.size) HO_0.out).2.2
                  have hcut101 := cut_from (P := Tryd.prog) 22 5 .i64 Tryd.underlying22 hi0101 1 hsz101 (some ad128005) x0_1.length co81 4 (by omega) q101
                  have hr101 := Kd.F_cut (m := (4 : Int).toNat) (c := co81) hC101 (by omega) hroom101
                  obtain ⟨A101, hA101⟩ : ∃ A1_, A1_ = (if co81 = (4 : Int).toNat then (some ad128005) else ((some ad128005) : Option Addr).map (·.add ((4 : Int).toNat * 1))) := ⟨_, rfl⟩
                  obtain ⟨c101, hc101⟩ : ∃ c1_, c1_ = co81 - (4 : Int).toNat := ⟨_, rfl⟩
                  have hy101 : y128078.length = x0_1.length - (4 : Int).toNat := (by rw [Ny128078.out, List.length_drop] <;> omega)
                  rw [show (x0_1).drop (4 : Int).toNat = y128078 from Ny128078.out.symm] at hr101
                  replace hr101 : Kd.F (Kd.int .u8) _ _ A101 y128078.length y128078 := (by rw [hA101]; exact hr101)
                  rw [← hy101, ← hA101, ← hc101] at hcut101
                  have HO128082 := Aside0.mk (show Kd.V (Kd.int .u8) 5 _ w.heap.size _ (.slice A101 y128078.length c101) y128078 from Kd.V_mk (by rw [hy101, hc101]; exact Nat.sub_le_sub_right hroom101 _) hr101)
                  have HC128082 := Aside0.mk (show y128078.length ≤ c101 from by rw [hy101, hc101]; exact Nat.sub_le_sub_right hroom101 _)
                  clear hr101 hC101 hroom101 hi0101 hsz101 hc101
                  have KY101 := Aside0.mk hy101
                  have KA101 := Aside0.mk hA101
                  clear hy101 hA101
                  replace q101 := eq_true q101
                  go_wp2
                  repeat (go_quiet (fail); try go_wp2)
                  go_roundg kj79
                  case measure => have := HK1.out; have := HJ79.out; omega
                  case rel => exact ⟨(y128078), H', ⟨by have := HK1.out; have := HJ79.out; omega⟩, ⟨by (with_reducible repeat (first | apply Kd.V_alloc | apply Kd.V_drewN | apply Kd.V_drew)); exact Kd.V_mono HO128082.out (fun _ hk => hk.1)⟩, ⟨hbs⟩⟩
                 ·rw [if_neg c100] at H
                  exact absurd H (by simp)
             ·as_aux_lemma =>
              rw [if_neg c79] at H
              have c79b0 : ((wrap64 (Go.bits .and .u8 (rd gtab0 (rd x0_1 0)) 7)) == 4) = false := beq_eq_false_iff_ne.mpr c79
              have c79b1 : ((wrap64 (Go.bits .and .u8 (rd gtab0 (rd x0_1 0)) 7)) != 4) = true := bne_iff_ne.mpr c79
              obtain rfl := Option.some.inj H
              obtain ⟨Ao102, co102, eo102⟩ := Kd.V_slice HO_0.out
              subst eo102
              have p128005 : 0 ≤ (0 : Int) := (by omega)
              have q128005 : 0 < (x0_1.length : Int) := odt
              obtain ⟨ad128005, e128005, hx128005_0⟩ := Kd.at_int (Kd.V_reads' HO_0.out).2.2 0 p128005 q128005
              cases e128005
              have qi128005 : (0 < x0_1.length) = True := eq_true (by omega)
              (try rw [show ((0 : Int)).toNat = 0 from rfl] at hx128005_0)
              (try rw [Addr.add_zero'] at hx128005_0)
              replace p128005 := eq_true p128005
              replace q128005 := eq_true q128005
              have p128053 : 0 ≤ ((rd x0_1 0) : Int) := odt
              have q128053 : (rd x0_1 0) < (256 : Int) := odt
              have hx128053_0 := GTab.at0 (show GTab wr from GTab.below hG hbw) ((rd x0_1 0)) p128053 q128053
              replace p128053 := eq_true p128053
              replace q128053 := eq_true q128053
              have p128054 : 0 ≤ ((ji45) : Int) := odt
              have q128054 : (ji45) < (16 : Int) := odt
              have hx128054_0 := GTab.at1_0 (show GTab wr from GTab.below hG hbw) ((ji45)) p128054 q128054
              have hx128054_1 := GTab.at1_1 (show GTab wr from GTab.below hG hbw) ((ji45)) p128054 q128054
              replace p128054 := eq_true p128054
              replace q128054 := eq_true q128054
              go_wp2_with (first | ((with_reducible refine gate_dst (N := 6) rfl ?_); refine boxE 6 #[.int .u8 0, .int .u8 0] 161 ?_; intro gb128055 hg w103 BK128055 hb; have GW128055 := Aside0.mk (gsz hg hbw : w.heap.size ≤ gb128055); have GE128055 := GW128055; replace HO_0 := Aside0.mk (Kd.V_below (Kd.V_elderB (hrnV HO_0) gb128055 (Nat.le_of_eq hg.symm)) hb); replace HB := Aside0.mk (below_step hbw hb); clear hb hg; have hcz104_0 : w103.cell? ⟨gb128055, 0, none⟩ = some (.int .u8 0) := (blk_cell BK128055.out 0).trans rfl; have hcz104_1 : w103.cell? ⟨gb128055, 1, none⟩ = some (.int .u8 0) := (blk_cell BK128055.out 1).trans rfl; have hfz104_0 := blk_frozen BK128055.out 0; have hfz104_1 := blk_frozen BK128055.out 1))
              repeat (go_quiet (fail); try go_wp2_with (fail))
              go_ret
              exact ⟨by first | rfl | (simp [errW_none, errW_some] <;> rfl) | (simp only [← hji45]; first | rfl | (simp [errW_none, errW_some] <;> rfl)) | (simp [*, errW_none, errW_some] <;> rfl), hbs⟩
          ·rw [if_neg c47] at H
           exact absurd H (by simp)
         ·rw [if_neg c46] at H
          exact absurd H (by simp)
        ·rw [if_neg c44] at H
         exact absurd H (by simp)
       ·rw [if_neg c43] at H
        exact absurd H (by simp)
     ·rw [if_neg c5] at H
      exact absurd H (by simp)
    ·as_aux_lemma =>
     rw [if_neg c4] at H
     have c4b0 : decide (0 < (x0_1.length : Int)) = false := decide_eq_false c4
     have c4b1 : decide (0 < x0_1.length) = false := decide_eq_false (by omega)
     clear c4
     obtain rfl := Option.some.inj H
     obtain ⟨Ao105, co105, eo105⟩ := Kd.V_slice HO_0.out
     subst eo105
     go_wp2
     repeat (go_quiet (fail); try go_wp2)
     go_ret
     exact ⟨erf, hbw⟩
 ·rw [if_neg c2] at H
  exact absurd H (by simp)
def impl_isText.f (k : Nat) (l0 : List Int) : Option (Bool) := if (l0.length : Int) ≤ 400 then ((utf8_Valid.f k l0).bind fun t77001 => (some t77001)) else (some false)
set_option maxHeartbeats 8000000 in
set_option maxRecDepth 100000 in
theorem impl_isText.calls (k : Nat) (A0 : Option Addr) (c0 : Nat) (l0 : List Int) (r : Bool) (w : World) (hr0 : Kd.C (Kd.int .u8) w A0 l0.length l0) (hc0 : l0.length ≤ c0) (hG : GTab w) (h : impl_isText.f k l0 = some r) :
  Calls Tryd.prog 76 #[.slice A0 l0.length c0] w fun e w' => e = .returned (.bool r) ∧ Below w.heap.size w w' := by
 have HR0 := Aside0.mk hr0
 have HC0 := Aside0.mk hc0
 clear hr0 hc0
 have HB := Aside0.mk (Below.refl w.heap.size w)
 have H : (if (l0.length : Int) ≤ 400 then ((utf8_Valid.f k l0).bind fun t77001 => (some t77001)) else (some false)) = some r := h
 clear h
 by_cases c2 : (l0.length : Int) ≤ 400
 ·rw [if_pos c2] at H
  have c2b0 : decide ((l0.length : Int) ≤ 400) = true := decide_eq_true c2
  have c2b1 : decide (l0.length ≤ 400) = true := decide_eq_true (by omega)
  clear c2
  replace H := Option.bind_eq_some_iff.mp H
  obtain ⟨t77001, A30, H⟩ := H
  replace H : (some t77001) = some r := H
  have A3 := Aside0.mk A30
  clear A30
  obtain rfl := Option.some.inj H
  go_enter Tryd.func76, Tryd.ntmps76
  go_wp2_with (first | (go_at_call 127; (with_reducible refine (utf8_Valid.calls k (fun k_ => k_ < w.heap.size) _ _ l0 t77001 _ ?side1 ?side2 A3.out).mono ?_); (case side1 => exact Kd.V_mk HC0.out (Kd.F_below (Kd.C_F (Kd.heap_int .u8) HR0.out) hbw)); (case side2 => exact GTab.below hG hbw); rintro e w4 ⟨rfl, hb⟩; replace HB := Aside0.mk (below_step hbw hb); (try clear hb); (try clear hb2); (try clear hk); (try clear hi)))
  go_ret
  exact ⟨erf, hbw⟩
 ·rw [if_neg c2] at H
  have c2b0 : decide ((l0.length : Int) ≤ 400) = false := decide_eq_false c2
  have c2b1 : decide (l0.length ≤ 400) = false := decide_eq_false (by omega)
  clear c2
  obtain rfl := Option.some.inj H
  go_enter Tryd.func76, Tryd.ntmps76
  go_wp2
  go_ret
  exact ⟨erf, hbw⟩
def utf8_RuneStart.f (a0 : Int) : Option (Bool) := some ((Go.bits .and .u8 a0 192) != 128)
set_option maxHeartbeats 8000000 in
set_option maxRecDepth 100000 in
theorem utf8_RuneStart.calls (a0 : Int) (r : Bool) (w : World) (h : utf8_RuneStart.f a0 = some r) :
  Calls Tryd.prog 128 #[.int .u8 a0] w fun e w' => e = .returned (.bool r) ∧ Drawn0 w w' := by
 have H : (some ((Go.bits .and .u8 a0 192) != 128)) = some r := h
 clear h
 obtain rfl := Option.some.inj H
 go_enter Tryd.func128, Tryd.ntmps128
 go_wp2
 go_ret
 exact ⟨by first | rfl | (simp; done) | (simp [*]; done), by repeat (first | exact Drawn0.refl _ | apply Drawn0.step)⟩
def impl_isCut.f (l0 : List Int) (a1 : Int) : Option (Bool) := if a1 = (l0.length : Int) then (some true) else ((impl_in.f a1 0 (wrap64 ((l0.length : Int) - 1))).bind fun t78001 => (if t78001 = true then (if 0 ≤ a1 then (if a1 < (l0.length : Int) then ((utf8_RuneStart.f (rd l0 a1)).bind fun t78003 => (some t78003)) else (none)) else (none)) else (some false)))
set_option maxHeartbeats 8000000 in
set_option maxRecDepth 100000 in
theorem impl_isCut.calls (A0 : Option Addr) (c0 : Nat) (l0 : List Int) (a1 : Int) (r : Bool) (w : World) (hr0 : Kd.C (Kd.int .u8) w A0 l0.length l0) (hc0 : l0.length ≤ c0) (h : impl_isCut.f l0 a1 = some r) :
  Calls Tryd.prog 77 #[.slice A0 l0.length c0, .int .i64 a1] w fun e w' => e = .returned (.bool r) ∧ Drawn0 w w' := by
 have HR0 := Aside0.mk hr0
 have HC0 := Aside0.mk hc0
 clear hr0 hc0
 have H : (if a1 = (l0.length : Int) then (some true) else ((impl_in.f a1 0 (wrap64 ((l0.length : Int) - 1))).bind fun t78001 => (if t78001 = true then (if 0 ≤ a1 then (if a1 < (l0.length : Int) then ((utf8_RuneStart.f (rd l0 a1)).bind fun t78003 => (some t78003)) else (none)) else (none)) else (some false)))) = some r := h
 clear h
 by_cases c3 : a1 = (l0.length : Int)
 ·rw [if_pos c3] at H
  have c3b0 : (a1 == (l0.length : Int)) = true := beq_iff_eq.mpr c3
  have c3b1 : (a1 != (l0.length : Int)) = false := bne_eq_false_iff_eq.mpr c3
  clear c3
  obtain rfl := Option.some.inj H
  go_enter Tryd.func77, Tryd.ntmps77
  go_wp2
  go_ret
  exact ⟨by first | rfl | (simp; done) | (simp [*]; done), by repeat (first | exact Drawn0.refl _ | apply Drawn0.step)⟩
 ·rw [if_neg c3] at H
  have c3b0 : (a1 == (l0.length : Int)) = false := beq_eq_false_iff_ne.mpr c3
  have c3b1 : (a1 != (l0.length : Int)) = true := bne_iff_ne.mpr c3
  replace H := Option.bind_eq_some_iff.mp H
  obtain ⟨t78001, A40, H⟩ := H
  replace H : (if t78001 = true then (if 0 ≤ a1 then (if a1 < (l0.length : Int) then ((utf8_RuneStart.f (rd l0 a1)).bind fun t78003 => (some t78003)) else (none)) else (none)) else (some false)) = some r := H
  have A4 := Aside0.mk A40
  clear A40
  by_cases c5 : t78001 = true
  ·subst c5
   have H1 : (if 0 ≤ a1 then (if a1 < (l0.length : Int) then ((utf8_RuneStart.f (rd l0 a1)).bind fun t78003 => (some t78003)) else (none)) else (none)) = some r := by rw [if_pos rfl] at H; exact H
   clear H
   have H := H1
   clear H1
   by_cases c6 : 0 ≤ a1
   ·rw [if_pos c6] at H
    have c6b0 : decide (0 ≤ a1) = true := decide_eq_true c6
    clear c6
    by_cases c7 : a1 < (l0.length : Int)
    ·rw [if_pos c7] at H
     have c7b0 : decide (a1 < (l0.length : Int)) = true := decide_eq_true c7
     clear c7
     replace H := Option.bind_eq_some_iff.mp H
     obtain ⟨t78003, A80, H⟩ := H
     replace H : (some t78003) = some r := H
     have A8 := Aside0.mk A80
     clear A80
     obtain rfl := Option.some.inj H
     go_enter Tryd.func77, Tryd.ntmps77
     go_wp2_with (first | (go_at_call 123; (with_reducible refine (impl_in.calls a1 0 (wrap64 ((l0.length : Int) - 1)) true _ A4.out).mono ?_); rintro e w' ⟨rfl, ⟨nd, rfl⟩⟩; have p78002 : 0 ≤ (a1 : Int) := odt; have q78002 : a1 < (l0.length : Int) := odt; obtain ⟨ad78002, e78002, hx78002_0⟩ := Kd.at_int HR0.out a1 p78002 q78002; cases e78002; replace p78002 := eq_true p78002; replace q78002 := eq_true q78002) | (go_at_call 128; (with_reducible refine (utf8_RuneStart.calls (rd l0 a1) t78003 _ A8.out).mono ?_); rintro e w' ⟨rfl, ⟨nd, rfl⟩⟩))
     go_ret
     exact ⟨by first | rfl | (simp; done) | (simp [*]; done), by repeat (first | exact Drawn0.refl _ | apply Drawn0.step)⟩
    ·rw [if_neg c7] at H
     exact absurd H (by simp)
   ·rw [if_neg c6] at H
    exact absurd H (by simp)
  ·replace c5 := Bool.eq_false_iff.mpr c5
   subst c5
   have H1 : (some false) = some r := by rw [if_neg (show ¬ (false = true) by decide)] at H; exact H
   clear H
   have H := H1
   clear H1
   obtain rfl := Option.some.inj H
   go_enter Tryd.func77, Tryd.ntmps77
   go_wp2_with (first | (go_at_call 123; (with_reducible refine (impl_in.calls a1 0 (wrap64 ((l0.length : Int) - 1)) false _ A4.out).mono ?_); rintro e w' ⟨rfl, ⟨nd, rfl⟩⟩))
   go_ret
   exact ⟨by first | rfl | (simp; done) | (simp [*]; done), by repeat (first | exact Drawn0.refl _ | apply Drawn0.step)⟩
end Go.Proofs.YteapbiiffcchbaaDoor.P
