/- The law FnEditJoin (the joined edit has the effect of both edits) returns true for every input and leaves its input as it was; conditions: the two tables of unicode/utf8 hold what the program's text lays (tied by the card). Part 6 of 6: joined by a program of the session's (wip/pack.py) out of its own texts and of the printed words, without remarks and without what nothing names. Not trusted: Lean checks it. -/
import Derived.Test.YteapbiiffcchbaaDoorJ5
import Derived.Lib.Bytes
import Derived.Lib.ValidAsc
import Derived.Laws.BitsAllLaws
import Derived.Lib.LaidIn
import Derived.Lib.LaidU8T
import Derived.Deep.DeepHandedRow
import Derived.Deep.DeepWitnessRowRef
import Derived.WalkKit
import Derived.ProofKit
import Derived.OpenShut
import Derived.ShutString
import Derived.ChangeOld
import Derived.Below
import Derived.SizedLaws
import Derived.SevenTiedAt
import Derived.Test.YteapbiiffcchbaaDoorRows
import Derived.Test.YteapbiiffcchbaaDoorTie
import Derived.Test.YteapbiiffcchbaaDoorCards
namespace Go.Proofs.YteapbiiffcchbaaDoor.P
open Go.Proofs.YteapbiiffcchbaaDoor.G
open Go.RowKit Go.Proofs.YteapbiiffcchbaaDoorW.PrintWords Go.Proofs.YteapbiiffcchbaaDoorW.PrintLast Go.Proofs.YteapbiiffcchbaaDoorW.PrintMore
attribute [local go_sem] max2_int min2_int max_two min_two max_three min_three max_four min_four
set_option linter.unusedVariables false
set_option linter.unusedSimpArgs false
mutual
def laws_FnEditJoin.j0 : Nat → List Int → Bool → Bool → Bool → Int → Int → List Int → Int → Int → List Int → Int → Int → List Int → Int → Int → List Int → Option (Bool)
 | 0, _, _, _, _, _, _, _, _, _, _, _, _, _, _, _, _ => none
 | k + 1, x0, x6, x8, x48, x4013000, x4013001, x4013002, x4014000, x4014001, x4014002, x4021000, x4021001, x4021002, x4028000, x4028001, x4028002 => if x48 = true then (if (x8 == x6) = true then ((laws_sameEdit.f k x4028000 x4028001 x4028002 x4021000 x4021001 x4021002).bind fun t4029 => (some t4029)) else (some false)) else ((laws_pick.f k x0 3 9).bind fun t4030 => (if 0 ≤ (mn 400 (wrap64 ((wrap64 (x4013000 + x4013001)) + t4030))) then (if (mn 400 (wrap64 ((wrap64 (x4013000 + x4013001)) + t4030)) : Int).toNat ≤ 281474976710656 then (laws_FnEditJoin.l0 k (List.replicate (mn 400 (wrap64 ((wrap64 (x4013000 + x4013001)) + t4030)) : Int).toNat 0) 0 x4013000 x4013001 x4013002 x4014000 x4014001 x4014002 x4028000 x4028001 x4028002) else (none)) else (none)))
def laws_FnEditJoin.l0 : Nat → List Int → Int → Int → Int → List Int → Int → Int → List Int → Int → Int → List Int → Option (Bool)
 | 0, _, _, _, _, _, _, _, _, _, _, _ => none
 | k + 1, x9, x10, x4013000, x4013001, x4013002, x4014000, x4014001, x4014002, x4028000, x4028001, x4028002 => if x10 < (x9.length : Int) then (if 0 ≤ x10 then (laws_FnEditJoin.l0 k (x9.set (x10 : Int).toNat ((wrap64 (97 + (Int.tmod x10 26))) % 256)) (wrap64 (x10 + 1)) x4013000 x4013001 x4013002 x4014000 x4014001 x4014002 x4028000 x4028001 x4028002) else (none)) else ((spec_EditDo.f k x9 x4013000 x4013001 x4013002).bind fun bt4035 => ((spec_EditDo.f k bt4035.1 x4014000 x4014001 x4014002).bind fun bt4039 => ((impl_EditDo.f k x9 x4028000 x4028001 x4028002).bind fun bt4043 => (if bt4035.2 = true then (if bt4039.2 = true then (if bt4043.2 = true then (laws_FnEditJoin.j2 k ((strOfNums bt4039.1).toList == (strOfNums bt4043.1).toList)) else (laws_FnEditJoin.j2 k false)) else (laws_FnEditJoin.j2 k true)) else (laws_FnEditJoin.j2 k true)))))
def laws_FnEditJoin.j2 : Nat → Bool → Option (Bool)
 | 0, _ => none
 | k + 1, x2 => some x2
end
def laws_FnEditJoin.f (k : Nat) (l0 : List Int) : Option (Bool) := (laws_big.f l0).bind fun t4001 => (if t4001 = true then (some true) else ((spec_DrawEditJoin.f k l0).bind fun bt4002 => ((spec_EditJoin.f k bt4002.1 bt4002.2.1 bt4002.2.2.1 bt4002.2.2.2.1 bt4002.2.2.2.2.1 bt4002.2.2.2.2.2).bind fun bt4014 => ((impl_EditJoin.f k bt4002.1 bt4002.2.1 bt4002.2.2.1 bt4002.2.2.2.1 bt4002.2.2.2.2.1 bt4002.2.2.2.2.2).bind fun bt4021 => (if (bt4021.2.2.2 != bt4014.2.2.2) = true then (laws_FnEditJoin.j0 k l0 bt4014.2.2.2 bt4021.2.2.2 true bt4002.1 bt4002.2.1 bt4002.2.2.1 bt4002.2.2.2.1 bt4002.2.2.2.2.1 bt4002.2.2.2.2.2 bt4014.1 bt4014.2.1 bt4014.2.2.1 bt4021.1 bt4021.2.1 bt4021.2.2.1) else ((laws_sameEdit.f k bt4021.1 bt4021.2.1 bt4021.2.2.1 bt4014.1 bt4014.2.1 bt4014.2.2.1).bind fun t4028 => (if t4028 = true then (laws_FnEditJoin.j0 k l0 bt4014.2.2.2 bt4021.2.2.2 (!bt4021.2.2.2) bt4002.1 bt4002.2.1 bt4002.2.2.1 bt4002.2.2.2.1 bt4002.2.2.2.2.1 bt4002.2.2.2.2.2 bt4014.1 bt4014.2.1 bt4014.2.2.1 bt4021.1 bt4021.2.1 bt4021.2.2.1) else (laws_FnEditJoin.j0 k l0 bt4014.2.2.2 bt4021.2.2.2 true bt4002.1 bt4002.2.1 bt4002.2.2.1 bt4002.2.2.2.1 bt4002.2.2.2.2.1 bt4002.2.2.2.2.2 bt4014.1 bt4014.2.1 bt4014.2.2.1 bt4021.1 bt4021.2.1 bt4021.2.2.1))))))))
theorem laws_FnEditJoin.mono_l : ∀ k, (∀ y0 y1 y2 y3 y4 y5 y6 y7 y8 y9 y10 y11 y12 y13 y14 y15, LeO (laws_FnEditJoin.j0 k y0 y1 y2 y3 y4 y5 y6 y7 y8 y9 y10 y11 y12 y13 y14 y15) (laws_FnEditJoin.j0 (k + 1) y0 y1 y2 y3 y4 y5 y6 y7 y8 y9 y10 y11 y12 y13 y14 y15)) ∧ (∀ y0 y1 y2 y3 y4 y5 y6 y7 y8 y9 y10, LeO (laws_FnEditJoin.l0 k y0 y1 y2 y3 y4 y5 y6 y7 y8 y9 y10) (laws_FnEditJoin.l0 (k + 1) y0 y1 y2 y3 y4 y5 y6 y7 y8 y9 y10)) ∧ (∀ y0, LeO (laws_FnEditJoin.j2 k y0) (laws_FnEditJoin.j2 (k + 1) y0))
 | 0 => ⟨fun _ _ _ _ _ _ _ _ _ _ _ _ _ _ _ _ r h => by simp [laws_FnEditJoin.j0] at h, fun _ _ _ _ _ _ _ _ _ _ _ r h => by simp [laws_FnEditJoin.l0] at h, fun _ r h => by simp [laws_FnEditJoin.j2] at h⟩
 | k + 1 => by
  obtain ⟨ih0, ih1, ih2⟩ := laws_FnEditJoin.mono_l k
  refine ⟨?_, ?_, ?_⟩
  ·intro y0 y1 y2 y3 y4 y5 y6 y7 y8 y9 y10 y11 y12 y13 y14 y15
   unfold laws_FnEditJoin.j0
   repeat' first
   | (with_reducible exact ih0 _ _ _ _ _ _ _ _ _ _ _ _ _ _ _ _)
   | (with_reducible exact ih1 _ _ _ _ _ _ _ _ _ _ _)
   | (with_reducible exact ih2 _)
   | (with_reducible exact impl_EditDo.mono _ _ _ _ _)
   | (with_reducible exact impl_EditJoin.mono _ _ _ _ _ _ _)
   | (with_reducible exact laws_pick.mono _ _ _ _)
   | (with_reducible exact laws_sameEdit.mono _ _ _ _ _ _ _)
   | (with_reducible exact spec_DrawEditJoin.mono _ _)
   | (with_reducible exact spec_EditDo.mono _ _ _ _ _)
   | (with_reducible exact spec_EditJoin.mono _ _ _ _ _ _ _)
   | (with_reducible exact LeO.refl _)
   | (with_reducible exact LeO.none _)
   | (with_reducible refine LeO.ite ?_ ?_)
   | (with_reducible refine LeO.bind ?_ (fun _ => ?_))
   | exact ih0 _ _ _ _ _ _ _ _ _ _ _ _ _ _ _ _
   | exact ih1 _ _ _ _ _ _ _ _ _ _ _
   | exact ih2 _
   | exact impl_EditDo.mono _ _ _ _ _
   | exact impl_EditJoin.mono _ _ _ _ _ _ _
   | exact laws_pick.mono _ _ _ _
   | exact laws_sameEdit.mono _ _ _ _ _ _ _
   | exact spec_DrawEditJoin.mono _ _
   | exact spec_EditDo.mono _ _ _ _ _
   | exact spec_EditJoin.mono _ _ _ _ _ _ _
   | exact LeO.none _
   | refine LeO.ite ?_ ?_
   | refine LeO.bind ?_ (fun _ => ?_)
  ·intro y0 y1 y2 y3 y4 y5 y6 y7 y8 y9 y10
   unfold laws_FnEditJoin.l0
   repeat' first
   | (with_reducible exact ih0 _ _ _ _ _ _ _ _ _ _ _ _ _ _ _ _)
   | (with_reducible exact ih1 _ _ _ _ _ _ _ _ _ _ _)
   | (with_reducible exact ih2 _)
   | (with_reducible exact impl_EditDo.mono _ _ _ _ _)
   | (with_reducible exact impl_EditJoin.mono _ _ _ _ _ _ _)
   | (with_reducible exact laws_pick.mono _ _ _ _)
   | (with_reducible exact laws_sameEdit.mono _ _ _ _ _ _ _)
   | (with_reducible exact spec_DrawEditJoin.mono _ _)
   | (with_reducible exact spec_EditDo.mono _ _ _ _ _)
   | (with_reducible exact spec_EditJoin.mono _ _ _ _ _ _ _)
   | (with_reducible exact LeO.refl _)
   | (with_reducible exact LeO.none _)
   | (with_reducible refine LeO.ite ?_ ?_)
   | (with_reducible refine LeO.bind ?_ (fun _ => ?_))
   | exact ih0 _ _ _ _ _ _ _ _ _ _ _ _ _ _ _ _
   | exact ih1 _ _ _ _ _ _ _ _ _ _ _
   | exact ih2 _
   | exact impl_EditDo.mono _ _ _ _ _
   | exact impl_EditJoin.mono _ _ _ _ _ _ _
   | exact laws_pick.mono _ _ _ _
   | exact laws_sameEdit.mono _ _ _ _ _ _ _
   | exact spec_DrawEditJoin.mono _ _
   | exact spec_EditDo.mono _ _ _ _ _
   | exact spec_EditJoin.mono _ _ _ _ _ _ _
   | exact LeO.none _
   | refine LeO.ite ?_ ?_
   | refine LeO.bind ?_ (fun _ => ?_)
  ·intro y0
   unfold laws_FnEditJoin.j2
   repeat' first
   | (with_reducible exact ih0 _ _ _ _ _ _ _ _ _ _ _ _ _ _ _ _)
   | (with_reducible exact ih1 _ _ _ _ _ _ _ _ _ _ _)
   | (with_reducible exact ih2 _)
   | (with_reducible exact impl_EditDo.mono _ _ _ _ _)
   | (with_reducible exact impl_EditJoin.mono _ _ _ _ _ _ _)
   | (with_reducible exact laws_pick.mono _ _ _ _)
   | (with_reducible exact laws_sameEdit.mono _ _ _ _ _ _ _)
   | (with_reducible exact spec_DrawEditJoin.mono _ _)
   | (with_reducible exact spec_EditDo.mono _ _ _ _ _)
   | (with_reducible exact spec_EditJoin.mono _ _ _ _ _ _ _)
   | (with_reducible exact LeO.refl _)
   | (with_reducible exact LeO.none _)
   | (with_reducible refine LeO.ite ?_ ?_)
   | (with_reducible refine LeO.bind ?_ (fun _ => ?_))
   | exact ih0 _ _ _ _ _ _ _ _ _ _ _ _ _ _ _ _
   | exact ih1 _ _ _ _ _ _ _ _ _ _ _
   | exact ih2 _
   | exact impl_EditDo.mono _ _ _ _ _
   | exact impl_EditJoin.mono _ _ _ _ _ _ _
   | exact laws_pick.mono _ _ _ _
   | exact laws_sameEdit.mono _ _ _ _ _ _ _
   | exact spec_DrawEditJoin.mono _ _
   | exact spec_EditDo.mono _ _ _ _ _
   | exact spec_EditJoin.mono _ _ _ _ _ _ _
   | exact LeO.none _
   | refine LeO.ite ?_ ?_
   | refine LeO.bind ?_ (fun _ => ?_)
theorem laws_FnEditJoin.mono : ∀ a0 k, LeO (laws_FnEditJoin.f k a0) (laws_FnEditJoin.f (k + 1) a0) := by
 intro a0 k
 obtain ⟨ih0, ih1, ih2⟩ := laws_FnEditJoin.mono_l k
 unfold laws_FnEditJoin.f
 repeat' first
   | (with_reducible exact ih0 _ _ _ _ _ _ _ _ _ _ _ _ _ _ _ _)
   | (with_reducible exact ih1 _ _ _ _ _ _ _ _ _ _ _)
   | (with_reducible exact ih2 _)
   | (with_reducible exact impl_EditDo.mono _ _ _ _ _)
   | (with_reducible exact impl_EditJoin.mono _ _ _ _ _ _ _)
   | (with_reducible exact laws_pick.mono _ _ _ _)
   | (with_reducible exact laws_sameEdit.mono _ _ _ _ _ _ _)
   | (with_reducible exact spec_DrawEditJoin.mono _ _)
   | (with_reducible exact spec_EditDo.mono _ _ _ _ _)
   | (with_reducible exact spec_EditJoin.mono _ _ _ _ _ _ _)
   | (with_reducible exact LeO.refl _)
   | (with_reducible exact LeO.none _)
   | (with_reducible refine LeO.ite ?_ ?_)
   | (with_reducible refine LeO.bind ?_ (fun _ => ?_))
   | exact ih0 _ _ _ _ _ _ _ _ _ _ _ _ _ _ _ _
   | exact ih1 _ _ _ _ _ _ _ _ _ _ _
   | exact ih2 _
   | exact impl_EditDo.mono _ _ _ _ _
   | exact impl_EditJoin.mono _ _ _ _ _ _ _
   | exact laws_pick.mono _ _ _ _
   | exact laws_sameEdit.mono _ _ _ _ _ _ _
   | exact spec_DrawEditJoin.mono _ _
   | exact spec_EditDo.mono _ _ _ _ _
   | exact spec_EditJoin.mono _ _ _ _ _ _ _
   | exact LeO.none _
   | refine LeO.ite ?_ ?_
   | refine LeO.bind ?_ (fun _ => ?_)
def laws_FnEditJoin.T8 : Bool × List (List Nat × List Nat) := (true, [([], []), ([0], [0]), ([], []), ([2], [2]), ([1, 3], [1, 3]), ([], []), ([5], [5]), ([4, 6], [4, 6]), ([7], [7]), ([8, 8], [8]), ([9, 6, 0, 1, 2, 3, 4, 5, 6, 7, 8, 9], [9])])
def laws_FnEditJoin.B8 : List Nat := [0, 1, 0, 4, 15, 0, 32, 127, 255, 511, 1023]
theorem laws_FnEditJoin.tab8 : rtab .any (opsOf Tryd.f3 8) = laws_FnEditJoin.T8 := by kernel_rfl
theorem laws_FnEditJoin.bits8 : waitsOk laws_FnEditJoin.T8.2 laws_FnEditJoin.B8 = true := by kernel_rfl
set_option maxHeartbeats 8000000 in
set_option maxRecDepth 100000 in
theorem laws_FnEditJoin.calls (k : Nat) (A0 : Option Addr) (c0 : Nat) (l0 : List Int) (r : Bool) (w : World) (hr0 : Kd.C (Kd.int .u8) w A0 l0.length l0) (hc0 : l0.length ≤ c0) (hG : GTab w) (h : laws_FnEditJoin.f k l0 = some r) :
  Calls Tryd.prog 3 #[.slice A0 l0.length c0] w fun e w' => e = .returned (.bool r) ∧ Below w.heap.size w w' := by
 have hu25 := Tryd.underlying25
 have HR0 := Aside0.mk hr0
 have HC0 := Aside0.mk hc0
 clear hr0 hc0
 have HB := Aside0.mk (Below.refl w.heap.size w)
 have H : ((laws_big.f l0).bind fun t4001 => (if t4001 = true then (some true) else ((spec_DrawEditJoin.f k l0).bind fun bt4002 => ((spec_EditJoin.f k bt4002.1 bt4002.2.1 bt4002.2.2.1 bt4002.2.2.2.1 bt4002.2.2.2.2.1 bt4002.2.2.2.2.2).bind fun bt4014 => ((impl_EditJoin.f k bt4002.1 bt4002.2.1 bt4002.2.2.1 bt4002.2.2.2.1 bt4002.2.2.2.2.1 bt4002.2.2.2.2.2).bind fun bt4021 => (if (bt4021.2.2.2 != bt4014.2.2.2) = true then (laws_FnEditJoin.j0 k l0 bt4014.2.2.2 bt4021.2.2.2 true bt4002.1 bt4002.2.1 bt4002.2.2.1 bt4002.2.2.2.1 bt4002.2.2.2.2.1 bt4002.2.2.2.2.2 bt4014.1 bt4014.2.1 bt4014.2.2.1 bt4021.1 bt4021.2.1 bt4021.2.2.1) else ((laws_sameEdit.f k bt4021.1 bt4021.2.1 bt4021.2.2.1 bt4014.1 bt4014.2.1 bt4014.2.2.1).bind fun t4028 => (if t4028 = true then (laws_FnEditJoin.j0 k l0 bt4014.2.2.2 bt4021.2.2.2 (!bt4021.2.2.2) bt4002.1 bt4002.2.1 bt4002.2.2.1 bt4002.2.2.2.1 bt4002.2.2.2.2.1 bt4002.2.2.2.2.2 bt4014.1 bt4014.2.1 bt4014.2.2.1 bt4021.1 bt4021.2.1 bt4021.2.2.1) else (laws_FnEditJoin.j0 k l0 bt4014.2.2.2 bt4021.2.2.2 true bt4002.1 bt4002.2.1 bt4002.2.2.1 bt4002.2.2.2.1 bt4002.2.2.2.2.1 bt4002.2.2.2.2.2 bt4014.1 bt4014.2.1 bt4014.2.2.1 bt4021.1 bt4021.2.1 bt4021.2.2.1))))))))) = some r := h
 clear h
 replace H := Option.bind_eq_some_iff.mp H
 obtain ⟨t4001, A20, H⟩ := H
 replace H : (if t4001 = true then (some true) else ((spec_DrawEditJoin.f k l0).bind fun bt4002 => ((spec_EditJoin.f k bt4002.1 bt4002.2.1 bt4002.2.2.1 bt4002.2.2.2.1 bt4002.2.2.2.2.1 bt4002.2.2.2.2.2).bind fun bt4014 => ((impl_EditJoin.f k bt4002.1 bt4002.2.1 bt4002.2.2.1 bt4002.2.2.2.1 bt4002.2.2.2.2.1 bt4002.2.2.2.2.2).bind fun bt4021 => (if (bt4021.2.2.2 != bt4014.2.2.2) = true then (laws_FnEditJoin.j0 k l0 bt4014.2.2.2 bt4021.2.2.2 true bt4002.1 bt4002.2.1 bt4002.2.2.1 bt4002.2.2.2.1 bt4002.2.2.2.2.1 bt4002.2.2.2.2.2 bt4014.1 bt4014.2.1 bt4014.2.2.1 bt4021.1 bt4021.2.1 bt4021.2.2.1) else ((laws_sameEdit.f k bt4021.1 bt4021.2.1 bt4021.2.2.1 bt4014.1 bt4014.2.1 bt4014.2.2.1).bind fun t4028 => (if t4028 = true then (laws_FnEditJoin.j0 k l0 bt4014.2.2.2 bt4021.2.2.2 (!bt4021.2.2.2) bt4002.1 bt4002.2.1 bt4002.2.2.1 bt4002.2.2.2.1 bt4002.2.2.2.2.1 bt4002.2.2.2.2.2 bt4014.1 bt4014.2.1 bt4014.2.2.1 bt4021.1 bt4021.2.1 bt4021.2.2.1) else (laws_FnEditJoin.j0 k l0 bt4014.2.2.2 bt4021.2.2.2 true bt4002.1 bt4002.2.1 bt4002.2.2.1 bt4002.2.2.2.1 bt4002.2.2.2.2.1 bt4002.2.2.2.2.2 bt4014.1 bt4014.2.1 bt4014.2.2.1 bt4021.1 bt4021.2.1 bt4021.2.2.1)))))))) = some r := H
 have A2 := Aside0.mk A20
 clear A20
 by_cases c3 : t4001 = true
 ·subst c3
  have H1 : (some true) = some r := by rw [if_pos rfl] at H; exact H
  clear H
  have H := H1
  clear H1
  obtain rfl := Option.some.inj H
  go_enter Tryd.func3, Tryd.ntmps3
  go_wp2_with (first | ((with_reducible refine gate_callee (f := 12) rfl ?_); refine goesM (some 18) Tryd.func12 #[.slice A0 l0.length c0] ?_; (with_reducible refine (laws_big.calls _ _ l0 true _ ?side1 ?side2 A2.out).mono ?_); (case side1 => exact cpl HR0.out); (case side2 => exact HC0.out); rintro e w' ⟨rfl, ⟨nd, rfl⟩⟩; refine ⟨_, rfl, ?_⟩))
  go_ret
  exact ⟨erf, hbw⟩
 ·replace c3 := Bool.eq_false_iff.mpr c3
  subst c3
  have H1 : ((spec_DrawEditJoin.f k l0).bind fun bt4002 => ((spec_EditJoin.f k bt4002.1 bt4002.2.1 bt4002.2.2.1 bt4002.2.2.2.1 bt4002.2.2.2.2.1 bt4002.2.2.2.2.2).bind fun bt4014 => ((impl_EditJoin.f k bt4002.1 bt4002.2.1 bt4002.2.2.1 bt4002.2.2.2.1 bt4002.2.2.2.2.1 bt4002.2.2.2.2.2).bind fun bt4021 => (if (bt4021.2.2.2 != bt4014.2.2.2) = true then (laws_FnEditJoin.j0 k l0 bt4014.2.2.2 bt4021.2.2.2 true bt4002.1 bt4002.2.1 bt4002.2.2.1 bt4002.2.2.2.1 bt4002.2.2.2.2.1 bt4002.2.2.2.2.2 bt4014.1 bt4014.2.1 bt4014.2.2.1 bt4021.1 bt4021.2.1 bt4021.2.2.1) else ((laws_sameEdit.f k bt4021.1 bt4021.2.1 bt4021.2.2.1 bt4014.1 bt4014.2.1 bt4014.2.2.1).bind fun t4028 => (if t4028 = true then (laws_FnEditJoin.j0 k l0 bt4014.2.2.2 bt4021.2.2.2 (!bt4021.2.2.2) bt4002.1 bt4002.2.1 bt4002.2.2.1 bt4002.2.2.2.1 bt4002.2.2.2.2.1 bt4002.2.2.2.2.2 bt4014.1 bt4014.2.1 bt4014.2.2.1 bt4021.1 bt4021.2.1 bt4021.2.2.1) else (laws_FnEditJoin.j0 k l0 bt4014.2.2.2 bt4021.2.2.2 true bt4002.1 bt4002.2.1 bt4002.2.2.1 bt4002.2.2.2.1 bt4002.2.2.2.2.1 bt4002.2.2.2.2.2 bt4014.1 bt4014.2.1 bt4014.2.2.1 bt4021.1 bt4021.2.1 bt4021.2.2.1))))))) = some r := by rw [if_neg (show ¬ (false = true) by decide)] at H; exact H
  clear H
  have H := H1
  clear H1
  replace H := Option.bind_eq_some_iff.mp H
  obtain ⟨⟨t4002, t4003, t4004, t4007, t4008, t4009⟩, A40, H⟩ := H
  replace H : ((spec_EditJoin.f k t4002 t4003 t4004 t4007 t4008 t4009).bind fun bt4014 => ((impl_EditJoin.f k t4002 t4003 t4004 t4007 t4008 t4009).bind fun bt4021 => (if (bt4021.2.2.2 != bt4014.2.2.2) = true then (laws_FnEditJoin.j0 k l0 bt4014.2.2.2 bt4021.2.2.2 true t4002 t4003 t4004 t4007 t4008 t4009 bt4014.1 bt4014.2.1 bt4014.2.2.1 bt4021.1 bt4021.2.1 bt4021.2.2.1) else ((laws_sameEdit.f k bt4021.1 bt4021.2.1 bt4021.2.2.1 bt4014.1 bt4014.2.1 bt4014.2.2.1).bind fun t4028 => (if t4028 = true then (laws_FnEditJoin.j0 k l0 bt4014.2.2.2 bt4021.2.2.2 (!bt4021.2.2.2) t4002 t4003 t4004 t4007 t4008 t4009 bt4014.1 bt4014.2.1 bt4014.2.2.1 bt4021.1 bt4021.2.1 bt4021.2.2.1) else (laws_FnEditJoin.j0 k l0 bt4014.2.2.2 bt4021.2.2.2 true t4002 t4003 t4004 t4007 t4008 t4009 bt4014.1 bt4014.2.1 bt4014.2.2.1 bt4021.1 bt4021.2.1 bt4021.2.2.1)))))) = some r := H
  have A4 := Aside0.mk A40
  clear A40
  replace H := Option.bind_eq_some_iff.mp H
  obtain ⟨⟨t4014, t4015, t4016, t4019⟩, A50, H⟩ := H
  replace H : ((impl_EditJoin.f k t4002 t4003 t4004 t4007 t4008 t4009).bind fun bt4021 => (if (bt4021.2.2.2 != t4019) = true then (laws_FnEditJoin.j0 k l0 t4019 bt4021.2.2.2 true t4002 t4003 t4004 t4007 t4008 t4009 t4014 t4015 t4016 bt4021.1 bt4021.2.1 bt4021.2.2.1) else ((laws_sameEdit.f k bt4021.1 bt4021.2.1 bt4021.2.2.1 t4014 t4015 t4016).bind fun t4028 => (if t4028 = true then (laws_FnEditJoin.j0 k l0 t4019 bt4021.2.2.2 (!bt4021.2.2.2) t4002 t4003 t4004 t4007 t4008 t4009 t4014 t4015 t4016 bt4021.1 bt4021.2.1 bt4021.2.2.1) else (laws_FnEditJoin.j0 k l0 t4019 bt4021.2.2.2 true t4002 t4003 t4004 t4007 t4008 t4009 t4014 t4015 t4016 bt4021.1 bt4021.2.1 bt4021.2.2.1))))) = some r := H
  have A5 := Aside0.mk A50
  clear A50
  replace H := Option.bind_eq_some_iff.mp H
  obtain ⟨⟨t4021, t4022, t4023, t4026⟩, A60, H⟩ := H
  replace H : (if (t4026 != t4019) = true then (laws_FnEditJoin.j0 k l0 t4019 t4026 true t4002 t4003 t4004 t4007 t4008 t4009 t4014 t4015 t4016 t4021 t4022 t4023) else ((laws_sameEdit.f k t4021 t4022 t4023 t4014 t4015 t4016).bind fun t4028 => (if t4028 = true then (laws_FnEditJoin.j0 k l0 t4019 t4026 (!t4026) t4002 t4003 t4004 t4007 t4008 t4009 t4014 t4015 t4016 t4021 t4022 t4023) else (laws_FnEditJoin.j0 k l0 t4019 t4026 true t4002 t4003 t4004 t4007 t4008 t4009 t4014 t4015 t4016 t4021 t4022 t4023)))) = some r := H
  have A6 := Aside0.mk A60
  clear A60
  have HC7 := Aside0.mk H
  clear H
  go_enter Tryd.func3, Tryd.ntmps3
  go_upto_region 6 with (first | ((with_reducible refine gate_callee (f := 12) rfl ?_); refine goesM (some 18) Tryd.func12 #[.slice A0 l0.length c0] ?_; (with_reducible refine (laws_big.calls _ _ l0 false _ ?side1 ?side2 A2.out).mono ?_); (case side1 => exact cpl HR0.out); (case side2 => exact HC0.out); rintro e w' ⟨rfl, ⟨nd, rfl⟩⟩; refine ⟨_, rfl, ?_⟩) | ((with_reducible refine gate_callee (f := 13) rfl ?_); refine goesM (some 21) Tryd.func13 #[.slice A0 l0.length c0] ?_; (with_reducible refine (spec_DrawEditJoin.calls k _ _ l0 t4002 t4003 t4004 t4007 t4008 t4009 _ ?side1 ?side2 A4.out).mono ?_); (case side1 => exact cpl HR0.out); (case side2 => exact HC0.out); rintro e w8 ⟨v4005, v4010, rfl, ho0, ho1, hb⟩; refine ⟨_, rfl, ?_⟩; have HO4006 := Aside0.mk (Kd.R_lower ho0 (below_size hbw)); have HO4011 := Aside0.mk (Kd.R_lower ho1 (below_size hbw)); replace HB := Aside0.mk (below_step hbw hb); (try clear hb); (try clear hb2); (try clear hk); (try clear hi); (try clear ho0); (try clear ho1)) | ((with_reducible refine gate_dst (N := 3) rfl ?_); refine boxE 3 #[.int .i64 0, .int .i64 0, .slice none 0 0] 25 ?_; intro gb4012 hg w9 BK4012 hb; have GW4012 := Aside0.mk (gsz hg hbw : w.heap.size ≤ gb4012); have GE4012 := GW4012; replace HO4006 := Aside0.mk (Kd.R_below (hrnR HO4006) hb); replace HO4011 := Aside0.mk (Kd.R_below (hrnR HO4011) hb); replace HB := Aside0.mk (below_step hbw hb); clear hb hg) | ((with_reducible refine gate_dst (N := 4) rfl ?_); refine boxE 4 #[.int .i64 0, .int .i64 0, .slice none 0 0] 25 ?_; intro gb4013 hg w10 BK4013 hb; have GW4013 := Aside0.mk (gsz hg hbs : w.heap.size ≤ gb4013); have GE4013 := GW4013; have NB4012_4013 := Aside0.mk (nbl BK4012 hg); have NB4013_4012 := Aside0.mk (nbg BK4012 hg); replace HO4006 := Aside0.mk (Kd.R_below (hrnR HO4006) hb); replace HO4011 := Aside0.mk (Kd.R_below (hrnR HO4011) hb); replace BK4012 := Aside0.mk (bkb BK4012 hb); replace HB := Aside0.mk (below_step hbs hb); clear hb hg; have hnb11 := NB4012_4013.out; have hnc11 := NB4013_4012.out; have hcz12_0 : w10.cell? ⟨gb4012, 0, none⟩ = some (.int .i64 0) := (blk_cell BK4012.out 0).trans rfl; have hcz12_1 : w10.cell? ⟨gb4012, 1, none⟩ = some (.int .i64 0) := (blk_cell BK4012.out 1).trans rfl; have hcz12_2 : w10.cell? ⟨gb4012, 2, none⟩ = some (.slice none 0 0) := (blk_cell BK4012.out 2).trans rfl; have hfz12_0 := blk_frozen BK4012.out 0; have hfz12_1 := blk_frozen BK4012.out 1; have hfz12_2 := blk_frozen BK4012.out 2; obtain ⟨Ao13, co13, eo13⟩ := Kd.R_slice HO4006.out; subst eo13; have hcz14_0 : w10.cell? ⟨gb4013, 0, none⟩ = some (.int .i64 0) := (blk_cell BK4013.out 0).trans rfl; have hcz14_1 : w10.cell? ⟨gb4013, 1, none⟩ = some (.int .i64 0) := (blk_cell BK4013.out 1).trans rfl; have hcz14_2 : w10.cell? ⟨gb4013, 2, none⟩ = some (.slice none 0 0) := (blk_cell BK4013.out 2).trans rfl; have hfz14_0 := blk_frozen BK4013.out 0; have hfz14_1 := blk_frozen BK4013.out 1; have hfz14_2 := blk_frozen BK4013.out 2; obtain ⟨Ao15, co15, eo15⟩ := Kd.R_slice HO4011.out; subst eo15) | ((with_reducible refine gate_callee (f := 14) rfl ?_); refine goesM (some 27) Tryd.func14 #[.agg #[.int .i64 t4002, .int .i64 t4003, .slice Ao13 t4004.length co13], .agg #[.int .i64 t4007, .int .i64 t4008, .slice Ao15 t4009.length co15]] ?_; (with_reducible refine (spec_EditJoin.calls k t4002 t4003 _ _ t4004 t4007 t4008 _ _ t4009 t4014 t4015 t4016 t4019 _ ?side1 ?side2 ?side3 ?side4 A5.out).mono ?_); (case side1 => refine (Kd.R_reads' (e := 5) (base := w.heap.size) (ok := fun k_ => some k_ ≠ (.slice Ao15 t4009.length co15 : Value).ownBlock) (n := t4004.length) (c := co13) ?_).2.2; exact (by (with_reducible repeat (first | apply Kd.R_alloc | apply Kd.R_drewN | apply Kd.R_drew)); exact (Kd.R_mono (Kd.R_mono (Kd.R_far (p := ⟨gb4013, 2, none⟩) (Kd.R_far (p := ⟨gb4013, 1, none⟩) (Kd.R_far (p := ⟨gb4013, 0, none⟩) (Kd.R_far (p := ⟨gb4012, 2, none⟩) (Kd.R_far (p := ⟨gb4012, 1, none⟩) (Kd.R_far (p := ⟨gb4012, 0, none⟩) (Kd.R_types (Kd.R_types HO4006.out BK4012.out (by decide)) BK4013.out (by decide)) (fun _ hk => hk.1.2) (.int .i64 t4002)) (fun _ hk => hk.1.2) (.int .i64 t4003)) (fun _ hk => hk.1.2) (.slice Ao13 t4004.length co13)) (fun _ hk => hk.2) (.int .i64 t4007)) (fun _ hk => hk.2) (.int .i64 t4008)) (fun _ hk => hk.2) (.slice Ao15 t4009.length co15)) (fun _ h_ => h_.1)) (fun _ h_ => h_.1)))); (case side2 => exact (Kd.R_reads' HO4006.out).2.1); (case side3 => refine (Kd.R_reads' (e := 5) (base := w.heap.size) (ok := fun k_ => some k_ ≠ (.slice Ao13 t4004.length co13 : Value).ownBlock) (n := t4009.length) (c := co15) ?_).2.2; exact (by (with_reducible repeat (first | apply Kd.R_alloc | apply Kd.R_drewN | apply Kd.R_drew)); exact (Kd.R_mono (Kd.R_mono (Kd.R_far (p := ⟨gb4013, 2, none⟩) (Kd.R_far (p := ⟨gb4013, 1, none⟩) (Kd.R_far (p := ⟨gb4013, 0, none⟩) (Kd.R_far (p := ⟨gb4012, 2, none⟩) (Kd.R_far (p := ⟨gb4012, 1, none⟩) (Kd.R_far (p := ⟨gb4012, 0, none⟩) (Kd.R_types (Kd.R_types HO4011.out BK4012.out (by decide)) BK4013.out (by decide)) (fun _ hk => hk.1.2) (.int .i64 t4002)) (fun _ hk => hk.1.2) (.int .i64 t4003)) (fun _ hk => hk.1.2) (.slice Ao13 t4004.length co13)) (fun _ hk => hk.2) (.int .i64 t4007)) (fun _ hk => hk.2) (.int .i64 t4008)) (fun _ hk => hk.2) (.slice Ao15 t4009.length co15)) (fun _ h_ => h_.1)) (fun _ h_ => h_.1)))); (case side4 => exact (Kd.R_reads' HO4011.out).2.1); rintro e w16 ⟨v4017, rfl, ho0, hb⟩; refine ⟨_, rfl, ?_⟩; have HO4018 := Aside0.mk (Kd.R_lower (Kd.R_new' (Kd.R_new' ho0 (Kd.R_lt (by (with_reducible repeat (first | apply Kd.R_alloc | apply Kd.R_drewN | apply Kd.R_drew)); exact (Kd.R_mono (Kd.R_mono (Kd.R_far (p := ⟨gb4013, 2, none⟩) (Kd.R_far (p := ⟨gb4013, 1, none⟩) (Kd.R_far (p := ⟨gb4013, 0, none⟩) (Kd.R_far (p := ⟨gb4012, 2, none⟩) (Kd.R_far (p := ⟨gb4012, 1, none⟩) (Kd.R_far (p := ⟨gb4012, 0, none⟩) (Kd.R_types (Kd.R_types HO4006.out BK4012.out (by decide)) BK4013.out (by decide)) (fun _ hk => hk.1.2) (.int .i64 t4002)) (fun _ hk => hk.1.2) (.int .i64 t4003)) (fun _ hk => hk.1.2) (.slice Ao13 t4004.length co13)) (fun _ hk => hk.2) (.int .i64 t4007)) (fun _ hk => hk.2) (.int .i64 t4008)) (fun _ hk => hk.2) (.slice Ao15 t4009.length co15)) (fun _ h_ => h_.1)) (fun _ h_ => h_.1))))) (Kd.R_lt (by (with_reducible repeat (first | apply Kd.R_alloc | apply Kd.R_drewN | apply Kd.R_drew)); exact (Kd.R_mono (Kd.R_mono (Kd.R_far (p := ⟨gb4013, 2, none⟩) (Kd.R_far (p := ⟨gb4013, 1, none⟩) (Kd.R_far (p := ⟨gb4013, 0, none⟩) (Kd.R_far (p := ⟨gb4012, 2, none⟩) (Kd.R_far (p := ⟨gb4012, 1, none⟩) (Kd.R_far (p := ⟨gb4012, 0, none⟩) (Kd.R_types (Kd.R_types HO4011.out BK4012.out (by decide)) BK4013.out (by decide)) (fun _ hk => hk.1.2) (.int .i64 t4002)) (fun _ hk => hk.1.2) (.int .i64 t4003)) (fun _ hk => hk.1.2) (.slice Ao13 t4004.length co13)) (fun _ hk => hk.2) (.int .i64 t4007)) (fun _ hk => hk.2) (.int .i64 t4008)) (fun _ hk => hk.2) (.slice Ao15 t4009.length co15)) (fun _ h_ => h_.1)) (fun _ h_ => h_.1))))) (below_size hbs)); replace HO4006 := Aside0.mk (Kd.R_elder' (by (with_reducible repeat (first | apply Kd.R_alloc | apply Kd.R_drewN | apply Kd.R_drew)); exact (Kd.R_mono (Kd.R_mono (Kd.R_far (p := ⟨gb4013, 2, none⟩) (Kd.R_far (p := ⟨gb4013, 1, none⟩) (Kd.R_far (p := ⟨gb4013, 0, none⟩) (Kd.R_far (p := ⟨gb4012, 2, none⟩) (Kd.R_far (p := ⟨gb4012, 1, none⟩) (Kd.R_far (p := ⟨gb4012, 0, none⟩) (Kd.R_types (Kd.R_types HO4006.out BK4012.out (by decide)) BK4013.out (by decide)) (fun _ hk => hk.1.2) (.int .i64 t4002)) (fun _ hk => hk.1.2) (.int .i64 t4003)) (fun _ hk => hk.1.2) (.slice Ao13 t4004.length co13)) (fun _ hk => hk.2) (.int .i64 t4007)) (fun _ hk => hk.2) (.int .i64 t4008)) (fun _ hk => hk.2) (.slice Ao15 t4009.length co15)) (fun _ h_ => h_.1)) (fun _ h_ => h_.1))) (Kd.R_base ho0) hb); replace HO4011 := Aside0.mk (Kd.R_elder' (by (with_reducible repeat (first | apply Kd.R_alloc | apply Kd.R_drewN | apply Kd.R_drew)); exact (Kd.R_mono (Kd.R_mono (Kd.R_far (p := ⟨gb4013, 2, none⟩) (Kd.R_far (p := ⟨gb4013, 1, none⟩) (Kd.R_far (p := ⟨gb4013, 0, none⟩) (Kd.R_far (p := ⟨gb4012, 2, none⟩) (Kd.R_far (p := ⟨gb4012, 1, none⟩) (Kd.R_far (p := ⟨gb4012, 0, none⟩) (Kd.R_types (Kd.R_types HO4011.out BK4012.out (by decide)) BK4013.out (by decide)) (fun _ hk => hk.1.2) (.int .i64 t4002)) (fun _ hk => hk.1.2) (.int .i64 t4003)) (fun _ hk => hk.1.2) (.slice Ao13 t4004.length co13)) (fun _ hk => hk.2) (.int .i64 t4007)) (fun _ hk => hk.2) (.int .i64 t4008)) (fun _ hk => hk.2) (.slice Ao15 t4009.length co15)) (fun _ h_ => h_.1)) (fun _ h_ => h_.1))) (Kd.R_base ho0) hb); replace BK4012 := Aside0.mk (blk_below (g := gb4012) (o := .cells #[.int .i64 t4002, .int .i64 t4003, .slice Ao13 t4004.length co13] 25 (0, 0)) (by refine pB ?_; refine blk_far ?_ NB4012_4013.out _; refine pB ?_; refine blk_far ?_ NB4012_4013.out _; refine pB ?_; refine blk_far ?_ NB4012_4013.out _; refine pB ?_; refine blk_put (cs := #[.int .i64 t4002, .int .i64 t4003, .slice none 0 0]) ?_ 2 _ rfl; refine pB ?_; refine blk_put (cs := #[.int .i64 t4002, .int .i64 0, .slice none 0 0]) ?_ 1 _ rfl; refine pB ?_; refine blk_put (cs := #[.int .i64 0, .int .i64 0, .slice none 0 0]) ?_ 0 _ rfl; refine pB ?_; exact BK4012.out) hb); replace BK4013 := Aside0.mk (blk_below (g := gb4013) (o := .cells #[.int .i64 t4007, .int .i64 t4008, .slice Ao15 t4009.length co15] 25 (0, 0)) (by refine pB ?_; refine blk_put (cs := #[.int .i64 t4007, .int .i64 t4008, .slice none 0 0]) ?_ 2 _ rfl; refine pB ?_; refine blk_put (cs := #[.int .i64 t4007, .int .i64 0, .slice none 0 0]) ?_ 1 _ rfl; refine pB ?_; refine blk_put (cs := #[.int .i64 0, .int .i64 0, .slice none 0 0]) ?_ 0 _ rfl; refine pB ?_; refine blk_far ?_ NB4013_4012.out _; refine pB ?_; refine blk_far ?_ NB4013_4012.out _; refine pB ?_; refine blk_far ?_ NB4013_4012.out _; refine pB ?_; exact BK4013.out) hb); replace HB := Aside0.mk (below_step hbs hb); (try clear hb); (try clear hb2); (try clear hk); (try clear hi); (try clear ho0)) | ((with_reducible refine gate_dst (N := 5) rfl ?_); refine boxE 5 #[.int .i64 0, .int .i64 0, .slice none 0 0] 25 ?_; intro gb4020 hg w17 BK4020 hb; have GW4020 := Aside0.mk (gsz hg hbs : w.heap.size ≤ gb4020); have GE4020 := GW4020; have NB4012_4020 := Aside0.mk (nbl BK4012 hg); have NB4020_4012 := Aside0.mk (nbg BK4012 hg); have NB4013_4020 := Aside0.mk (nbl BK4013 hg); have NB4020_4013 := Aside0.mk (nbg BK4013 hg); replace HO4006 := Aside0.mk (Kd.R_below (hrnR HO4006) hb); replace HO4011 := Aside0.mk (Kd.R_below (hrnR HO4011) hb); replace HO4018 := Aside0.mk (Kd.R_below (hrnR HO4018) hb); replace BK4012 := Aside0.mk (bkb BK4012 hb); replace BK4013 := Aside0.mk (bkb BK4013 hb); replace HB := Aside0.mk (below_step hbs hb); clear hb hg; have hnb18 := NB4020_4012.out; have hnc18 := NB4012_4020.out; have hnb19 := NB4020_4013.out; have hnc19 := NB4013_4020.out; have hcz20_0 : w17.cell? ⟨gb4020, 0, none⟩ = some (.int .i64 0) := (blk_cell BK4020.out 0).trans rfl; have hcz20_1 : w17.cell? ⟨gb4020, 1, none⟩ = some (.int .i64 0) := (blk_cell BK4020.out 1).trans rfl; have hcz20_2 : w17.cell? ⟨gb4020, 2, none⟩ = some (.slice none 0 0) := (blk_cell BK4020.out 2).trans rfl; have hfz20_0 := blk_frozen BK4020.out 0; have hfz20_1 := blk_frozen BK4020.out 1; have hfz20_2 := blk_frozen BK4020.out 2; obtain ⟨Ao21, co21, eo21⟩ := Kd.R_slice HO4018.out; subst eo21; have hcz22_0 : w17.cell? ⟨gb4012, 0, none⟩ = some (.int .i64 t4002) := (blk_cell BK4012.out 0).trans rfl; have hcz22_1 : w17.cell? ⟨gb4012, 1, none⟩ = some (.int .i64 t4003) := (blk_cell BK4012.out 1).trans rfl; have hcz22_2 : w17.cell? ⟨gb4012, 2, none⟩ = some (.slice Ao13 t4004.length co13) := (blk_cell BK4012.out 2).trans rfl; have hfz22_0 := blk_frozen BK4012.out 0; have hfz22_1 := blk_frozen BK4012.out 1; have hfz22_2 := blk_frozen BK4012.out 2; have hcz23_0 : w17.cell? ⟨gb4013, 0, none⟩ = some (.int .i64 t4007) := (blk_cell BK4013.out 0).trans rfl; have hcz23_1 : w17.cell? ⟨gb4013, 1, none⟩ = some (.int .i64 t4008) := (blk_cell BK4013.out 1).trans rfl; have hcz23_2 : w17.cell? ⟨gb4013, 2, none⟩ = some (.slice Ao15 t4009.length co15) := (blk_cell BK4013.out 2).trans rfl; have hfz23_0 := blk_frozen BK4013.out 0; have hfz23_1 := blk_frozen BK4013.out 1; have hfz23_2 := blk_frozen BK4013.out 2) | ((with_reducible refine gate_callee (f := 15) rfl ?_); refine goesM (some 33) Tryd.func15 #[.agg #[.int .i64 t4002, .int .i64 t4003, .slice Ao13 t4004.length co13], .agg #[.int .i64 t4007, .int .i64 t4008, .slice Ao15 t4009.length co15]] ?_; (with_reducible refine (impl_EditJoin.calls k t4002 t4003 _ _ t4004 t4007 t4008 _ _ t4009 t4021 t4022 t4023 t4026 _ ?side1 ?side2 ?side3 ?side4 A6.out).mono ?_); (case side1 => refine (Kd.R_reads' (e := 5) (base := w.heap.size) (ok := fun k_ => (some k_ ≠ (.slice Ao15 t4009.length co15 : Value).ownBlock ∧ some k_ ≠ (.slice Ao21 t4016.length co21 : Value).ownBlock)) (n := t4004.length) (c := co13) ?_).2.2; exact (by (with_reducible repeat (first | apply Kd.R_alloc | apply Kd.R_drewN | apply Kd.R_drew)); exact (Kd.R_mono (Kd.R_far (p := ⟨gb4020, 2, none⟩) (Kd.R_far (p := ⟨gb4020, 1, none⟩) (Kd.R_far (p := ⟨gb4020, 0, none⟩) (Kd.R_types HO4006.out BK4020.out (by decide)) (fun _ hk => hk.2) (.int .i64 t4014)) (fun _ hk => hk.2) (.int .i64 t4015)) (fun _ hk => hk.2) (.slice Ao21 t4016.length co21)) (fun _ h_ => h_.1)))); (case side2 => exact (Kd.R_reads' HO4006.out).2.1); (case side3 => refine (Kd.R_reads' (e := 5) (base := w.heap.size) (ok := fun k_ => (some k_ ≠ (.slice Ao13 t4004.length co13 : Value).ownBlock ∧ some k_ ≠ (.slice Ao21 t4016.length co21 : Value).ownBlock)) (n := t4009.length) (c := co15) ?_).2.2; exact (by (with_reducible repeat (first | apply Kd.R_alloc | apply Kd.R_drewN | apply Kd.R_drew)); exact (Kd.R_mono (Kd.R_far (p := ⟨gb4020, 2, none⟩) (Kd.R_far (p := ⟨gb4020, 1, none⟩) (Kd.R_far (p := ⟨gb4020, 0, none⟩) (Kd.R_types HO4011.out BK4020.out (by decide)) (fun _ hk => hk.2) (.int .i64 t4014)) (fun _ hk => hk.2) (.int .i64 t4015)) (fun _ hk => hk.2) (.slice Ao21 t4016.length co21)) (fun _ h_ => h_.1)))); (case side4 => exact (Kd.R_reads' HO4011.out).2.1); rintro e w24 ⟨v4024, rfl, ho0, hb⟩; refine ⟨_, rfl, ?_⟩; have HO4025 := Aside0.mk (Kd.R_lower (Kd.R_new' (Kd.R_new' (Kd.R_new' ho0 (Kd.R_lt (by (with_reducible repeat (first | apply Kd.R_alloc | apply Kd.R_drewN | apply Kd.R_drew)); exact (Kd.R_mono (Kd.R_far (p := ⟨gb4020, 2, none⟩) (Kd.R_far (p := ⟨gb4020, 1, none⟩) (Kd.R_far (p := ⟨gb4020, 0, none⟩) (Kd.R_types HO4006.out BK4020.out (by decide)) (fun _ hk => hk.2) (.int .i64 t4014)) (fun _ hk => hk.2) (.int .i64 t4015)) (fun _ hk => hk.2) (.slice Ao21 t4016.length co21)) (fun _ h_ => h_.1))))) (Kd.R_lt (by (with_reducible repeat (first | apply Kd.R_alloc | apply Kd.R_drewN | apply Kd.R_drew)); exact (Kd.R_mono (Kd.R_far (p := ⟨gb4020, 2, none⟩) (Kd.R_far (p := ⟨gb4020, 1, none⟩) (Kd.R_far (p := ⟨gb4020, 0, none⟩) (Kd.R_types HO4011.out BK4020.out (by decide)) (fun _ hk => hk.2) (.int .i64 t4014)) (fun _ hk => hk.2) (.int .i64 t4015)) (fun _ hk => hk.2) (.slice Ao21 t4016.length co21)) (fun _ h_ => h_.1))))) (Kd.R_lt (by (with_reducible repeat (first | apply Kd.R_alloc | apply Kd.R_drewN | apply Kd.R_drew)); exact (Kd.R_mono (Kd.R_far (p := ⟨gb4020, 2, none⟩) (Kd.R_far (p := ⟨gb4020, 1, none⟩) (Kd.R_far (p := ⟨gb4020, 0, none⟩) (Kd.R_types HO4018.out BK4020.out (by decide)) (fun _ hk => hk.2) (.int .i64 t4014)) (fun _ hk => hk.2) (.int .i64 t4015)) (fun _ hk => hk.2) (.slice Ao21 t4016.length co21)) (fun _ h_ => h_.1))))) (below_size hbs)); replace HO4006 := Aside0.mk (Kd.R_elder' (by (with_reducible repeat (first | apply Kd.R_alloc | apply Kd.R_drewN | apply Kd.R_drew)); exact (Kd.R_mono (Kd.R_far (p := ⟨gb4020, 2, none⟩) (Kd.R_far (p := ⟨gb4020, 1, none⟩) (Kd.R_far (p := ⟨gb4020, 0, none⟩) (Kd.R_types HO4006.out BK4020.out (by decide)) (fun _ hk => hk.2) (.int .i64 t4014)) (fun _ hk => hk.2) (.int .i64 t4015)) (fun _ hk => hk.2) (.slice Ao21 t4016.length co21)) (fun _ h_ => h_.1))) (Kd.R_base ho0) hb); replace HO4011 := Aside0.mk (Kd.R_elder' (by (with_reducible repeat (first | apply Kd.R_alloc | apply Kd.R_drewN | apply Kd.R_drew)); exact (Kd.R_mono (Kd.R_far (p := ⟨gb4020, 2, none⟩) (Kd.R_far (p := ⟨gb4020, 1, none⟩) (Kd.R_far (p := ⟨gb4020, 0, none⟩) (Kd.R_types HO4011.out BK4020.out (by decide)) (fun _ hk => hk.2) (.int .i64 t4014)) (fun _ hk => hk.2) (.int .i64 t4015)) (fun _ hk => hk.2) (.slice Ao21 t4016.length co21)) (fun _ h_ => h_.1))) (Kd.R_base ho0) hb); replace HO4018 := Aside0.mk (Kd.R_elder' (by (with_reducible repeat (first | apply Kd.R_alloc | apply Kd.R_drewN | apply Kd.R_drew)); exact (Kd.R_mono (Kd.R_far (p := ⟨gb4020, 2, none⟩) (Kd.R_far (p := ⟨gb4020, 1, none⟩) (Kd.R_far (p := ⟨gb4020, 0, none⟩) (Kd.R_types HO4018.out BK4020.out (by decide)) (fun _ hk => hk.2) (.int .i64 t4014)) (fun _ hk => hk.2) (.int .i64 t4015)) (fun _ hk => hk.2) (.slice Ao21 t4016.length co21)) (fun _ h_ => h_.1))) (Kd.R_base ho0) hb); replace BK4012 := Aside0.mk (blk_below (g := gb4012) (o := .cells #[.int .i64 t4002, .int .i64 t4003, .slice Ao13 t4004.length co13] 25 (0, 0)) (by refine pB ?_; refine blk_far ?_ NB4012_4020.out _; refine pB ?_; refine blk_far ?_ NB4012_4020.out _; refine pB ?_; refine blk_far ?_ NB4012_4020.out _; refine pB ?_; exact BK4012.out) hb); replace BK4013 := Aside0.mk (blk_below (g := gb4013) (o := .cells #[.int .i64 t4007, .int .i64 t4008, .slice Ao15 t4009.length co15] 25 (0, 0)) (by refine pB ?_; refine blk_far ?_ NB4013_4020.out _; refine pB ?_; refine blk_far ?_ NB4013_4020.out _; refine pB ?_; refine blk_far ?_ NB4013_4020.out _; refine pB ?_; exact BK4013.out) hb); replace BK4020 := Aside0.mk (blk_below (g := gb4020) (o := .cells #[.int .i64 t4014, .int .i64 t4015, .slice Ao21 t4016.length co21] 25 (0, 0)) (by refine pB ?_; refine blk_put (cs := #[.int .i64 t4014, .int .i64 t4015, .slice none 0 0]) ?_ 2 _ rfl; refine pB ?_; refine blk_put (cs := #[.int .i64 t4014, .int .i64 0, .slice none 0 0]) ?_ 1 _ rfl; refine pB ?_; refine blk_put (cs := #[.int .i64 0, .int .i64 0, .slice none 0 0]) ?_ 0 _ rfl; refine pB ?_; exact BK4020.out) hb); replace HB := Aside0.mk (below_step hbs hb); (try clear hb); (try clear hb2); (try clear hk); (try clear hi); (try clear ho0)) | ((with_reducible refine gate_dst (N := 7) rfl ?_); refine boxE 7 #[.int .i64 0, .int .i64 0, .slice none 0 0] 25 ?_; intro gb4027 hg w25 BK4027 hb; have GW4027 := Aside0.mk (gsz hg hbs : w.heap.size ≤ gb4027); have GE4027 := GW4027; have NB4012_4027 := Aside0.mk (nbl BK4012 hg); have NB4027_4012 := Aside0.mk (nbg BK4012 hg); have NB4013_4027 := Aside0.mk (nbl BK4013 hg); have NB4027_4013 := Aside0.mk (nbg BK4013 hg); have NB4020_4027 := Aside0.mk (nbl BK4020 hg); have NB4027_4020 := Aside0.mk (nbg BK4020 hg); replace HO4006 := Aside0.mk (Kd.R_below (hrnR HO4006) hb); replace HO4011 := Aside0.mk (Kd.R_below (hrnR HO4011) hb); replace HO4018 := Aside0.mk (Kd.R_below (hrnR HO4018) hb); replace HO4025 := Aside0.mk (Kd.R_below (hrnR HO4025) hb); replace BK4012 := Aside0.mk (bkb BK4012 hb); replace BK4013 := Aside0.mk (bkb BK4013 hb); replace BK4020 := Aside0.mk (bkb BK4020 hb); replace HB := Aside0.mk (below_step hbs hb); clear hb hg; have hnb26 := NB4027_4012.out; have hnc26 := NB4012_4027.out; have hnb27 := NB4027_4013.out; have hnc27 := NB4013_4027.out; have hnb28 := NB4027_4020.out; have hnc28 := NB4020_4027.out; have hcz29_0 : w25.cell? ⟨gb4027, 0, none⟩ = some (.int .i64 0) := (blk_cell BK4027.out 0).trans rfl; have hcz29_1 : w25.cell? ⟨gb4027, 1, none⟩ = some (.int .i64 0) := (blk_cell BK4027.out 1).trans rfl; have hcz29_2 : w25.cell? ⟨gb4027, 2, none⟩ = some (.slice none 0 0) := (blk_cell BK4027.out 2).trans rfl; have hfz29_0 := blk_frozen BK4027.out 0; have hfz29_1 := blk_frozen BK4027.out 1; have hfz29_2 := blk_frozen BK4027.out 2; obtain ⟨Ao30, co30, eo30⟩ := Kd.R_slice HO4025.out; subst eo30))
  (try simp only [Act.put, List.setIfInBounds_toArray, List.set_cons_zero, List.set_cons_succ])
  go_cut [48] (fun v48 wc => ∃ (kq : Nat) (x48_6 : Bool), v48 = .bool x48_6 ∧ Aside0 (laws_FnEditJoin.j0 kq l0 t4019 t4026 x48_6 t4002 t4003 t4004 t4007 t4008 t4009 t4014 t4015 t4016 t4021 t4022 t4023 = some r) ∧ Aside0 (kq ≤ k) ∧ Aside0 (Kd.R (Kd.int .u8) 5 wc w.heap.size (fun k_ => some k_ ≠ ((.slice Ao15 t4009.length co15) : Value).ownBlock ∧ some k_ ≠ ((.slice Ao21 t4016.length co21) : Value).ownBlock ∧ some k_ ≠ ((.slice Ao30 t4023.length co30) : Value).ownBlock) (.slice Ao13 t4004.length co13) t4004) ∧ Aside0 (Kd.R (Kd.int .u8) 5 wc w.heap.size (fun k_ => some k_ ≠ ((.slice Ao13 t4004.length co13) : Value).ownBlock ∧ some k_ ≠ ((.slice Ao21 t4016.length co21) : Value).ownBlock ∧ some k_ ≠ ((.slice Ao30 t4023.length co30) : Value).ownBlock) (.slice Ao15 t4009.length co15) t4009) ∧ Aside0 (Kd.R (Kd.int .u8) 5 wc w.heap.size (fun k_ => some k_ ≠ ((.slice Ao13 t4004.length co13) : Value).ownBlock ∧ some k_ ≠ ((.slice Ao15 t4009.length co15) : Value).ownBlock ∧ some k_ ≠ ((.slice Ao30 t4023.length co30) : Value).ownBlock) (.slice Ao21 t4016.length co21) t4016) ∧ Aside0 (Kd.R (Kd.int .u8) 5 wc w.heap.size (fun k_ => some k_ ≠ ((.slice Ao13 t4004.length co13) : Value).ownBlock ∧ some k_ ≠ ((.slice Ao15 t4009.length co15) : Value).ownBlock ∧ some k_ ≠ ((.slice Ao21 t4016.length co21) : Value).ownBlock) (.slice Ao30 t4023.length co30) t4023) ∧ Aside0 (wc.heap[gb4012]? = some (.cells #[.int .i64 t4002, .int .i64 t4003, (.slice Ao13 t4004.length co13)] 25 (0, 0))) ∧ Aside0 (wc.heap[gb4013]? = some (.cells #[.int .i64 t4007, .int .i64 t4008, (.slice Ao15 t4009.length co15)] 25 (0, 0))) ∧ Aside0 (wc.heap[gb4020]? = some (.cells #[.int .i64 t4014, .int .i64 t4015, (.slice Ao21 t4016.length co21)] 25 (0, 0))) ∧ Aside0 (wc.heap[gb4027]? = some (.cells #[.int .i64 t4021, .int .i64 t4022, (.slice Ao30 t4023.length co30)] 25 (0, 0))) ∧ Aside0 (Below w.heap.size w wc))
  case first =>
   have H := HC7.out
   clear HC7
   by_cases c31 : (t4026 != t4019) = true
   ·rw [if_pos c31] at H
    have c31b0 : (t4026 != t4019) = true := c31
    (try (have c31b1 : decide (t4026 = t4019) = false := by simpa using c31))
    (try (have c31b2 : (t4026 == t4019) = false := by simpa using c31))
    (try (have c31b3 : ¬ (t4026 = t4019) := by simpa using c31))
    clear c31
    (first | rw [c31b0] | (simp only [i64_w, i32_w]; rw [c31b0]) | skip)
    have H' := Aside0.mk H
    clear H
    go_wp2
    go_meet
    case rel => exact ⟨_, (true), rfs, H', ⟨by first | omega | exact Nat.le_refl _⟩, ⟨by (with_reducible repeat (first | apply Kd.R_alloc | apply Kd.R_drewN | apply Kd.R_drew)); exact Kd.R_mono (Kd.R_far (p := ⟨gb4027, 2, none⟩) (Kd.R_far (p := ⟨gb4027, 1, none⟩) (Kd.R_far (p := ⟨gb4027, 0, none⟩) (Kd.R_types HO4006.out BK4027.out (by decide)) (fun _ hk => hk.2) (.int .i64 t4021)) (fun _ hk => hk.2) (.int .i64 t4022)) (fun _ hk => hk.2) (.slice Ao30 t4023.length co30)) (fun _ hk => ⟨hk.1.1.1, ⟨hk.1.1.2, hk.1.2⟩⟩)⟩, ⟨by (with_reducible repeat (first | apply Kd.R_alloc | apply Kd.R_drewN | apply Kd.R_drew)); exact Kd.R_mono (Kd.R_far (p := ⟨gb4027, 2, none⟩) (Kd.R_far (p := ⟨gb4027, 1, none⟩) (Kd.R_far (p := ⟨gb4027, 0, none⟩) (Kd.R_types HO4011.out BK4027.out (by decide)) (fun _ hk => hk.2) (.int .i64 t4021)) (fun _ hk => hk.2) (.int .i64 t4022)) (fun _ hk => hk.2) (.slice Ao30 t4023.length co30)) (fun _ hk => ⟨hk.1.1.1, ⟨hk.1.1.2, hk.1.2⟩⟩)⟩, ⟨by (with_reducible repeat (first | apply Kd.R_alloc | apply Kd.R_drewN | apply Kd.R_drew)); exact Kd.R_mono (Kd.R_far (p := ⟨gb4027, 2, none⟩) (Kd.R_far (p := ⟨gb4027, 1, none⟩) (Kd.R_far (p := ⟨gb4027, 0, none⟩) (Kd.R_types HO4018.out BK4027.out (by decide)) (fun _ hk => hk.2) (.int .i64 t4021)) (fun _ hk => hk.2) (.int .i64 t4022)) (fun _ hk => hk.2) (.slice Ao30 t4023.length co30)) (fun _ hk => ⟨hk.1.1.1.2, ⟨hk.1.1.2, hk.1.2⟩⟩)⟩, ⟨by (with_reducible repeat (first | apply Kd.R_alloc | apply Kd.R_drewN | apply Kd.R_drew)); exact Kd.R_mono (Kd.R_far (p := ⟨gb4027, 2, none⟩) (Kd.R_far (p := ⟨gb4027, 1, none⟩) (Kd.R_far (p := ⟨gb4027, 0, none⟩) (Kd.R_types HO4025.out BK4027.out (by decide)) (fun _ hk => hk.2) (.int .i64 t4021)) (fun _ hk => hk.2) (.int .i64 t4022)) (fun _ hk => hk.2) (.slice Ao30 t4023.length co30)) (fun _ hk => ⟨hk.1.1.1.2, ⟨hk.1.1.2, hk.1.2⟩⟩)⟩, ⟨by refine pB ?_; refine blk_far ?_ NB4012_4027.out _; refine pB ?_; refine blk_far ?_ NB4012_4027.out _; refine pB ?_; refine blk_far ?_ NB4012_4027.out _; refine pB ?_; exact BK4012.out⟩, ⟨by refine pB ?_; refine blk_far ?_ NB4013_4027.out _; refine pB ?_; refine blk_far ?_ NB4013_4027.out _; refine pB ?_; refine blk_far ?_ NB4013_4027.out _; refine pB ?_; exact BK4013.out⟩, ⟨by refine pB ?_; refine blk_far ?_ NB4020_4027.out _; refine pB ?_; refine blk_far ?_ NB4020_4027.out _; refine pB ?_; refine blk_far ?_ NB4020_4027.out _; refine pB ?_; exact BK4020.out⟩, ⟨by refine pB ?_; refine blk_put (cs := #[.int .i64 t4021, .int .i64 t4022, .slice none 0 0]) ?_ 2 _ rfl; refine pB ?_; refine blk_put (cs := #[.int .i64 t4021, .int .i64 0, .slice none 0 0]) ?_ 1 _ rfl; refine pB ?_; refine blk_put (cs := #[.int .i64 0, .int .i64 0, .slice none 0 0]) ?_ 0 _ rfl; refine pB ?_; exact BK4027.out⟩, ⟨hbs⟩⟩
   ·rw [if_neg c31] at H
    have c31b0 : (t4026 != t4019) = false := by simpa using c31
    (try (have c31b1 : decide (t4026 = t4019) = true := by simpa using c31))
    (try (have c31b2 : (t4026 == t4019) = true := by simpa using c31))
    clear c31
    (first | rw [c31b0] | (simp only [i64_w, i32_w]; rw [c31b0]) | skip)
    replace H := Option.bind_eq_some_iff.mp H
    obtain ⟨t4028, A320, H⟩ := H
    replace H : (if t4028 = true then (laws_FnEditJoin.j0 k l0 t4019 t4026 (!t4026) t4002 t4003 t4004 t4007 t4008 t4009 t4014 t4015 t4016 t4021 t4022 t4023) else (laws_FnEditJoin.j0 k l0 t4019 t4026 true t4002 t4003 t4004 t4007 t4008 t4009 t4014 t4015 t4016 t4021 t4022 t4023)) = some r := H
    have A32 := Aside0.mk A320
    clear A320
    by_cases c33 : t4028 = true
    ·subst c33
     have H1 : (laws_FnEditJoin.j0 k l0 t4019 t4026 (!t4026) t4002 t4003 t4004 t4007 t4008 t4009 t4014 t4015 t4016 t4021 t4022 t4023) = some r := by rw [if_pos rfl] at H; exact H
     clear H
     have H := H1
     clear H1
     have H' := Aside0.mk H
     clear H
     have hnb34 := NB4027_4012.out
     have hnc34 := NB4012_4027.out
     have hnb35 := NB4027_4013.out
     have hnc35 := NB4013_4027.out
     have hnb36 := NB4027_4020.out
     have hnc36 := NB4020_4027.out
     have hcz37_0 : w25.cell? ⟨gb4027, 0, none⟩ = some (.int .i64 0) := (blk_cell BK4027.out 0).trans rfl
     have hcz37_1 : w25.cell? ⟨gb4027, 1, none⟩ = some (.int .i64 0) := (blk_cell BK4027.out 1).trans rfl
     have hcz37_2 : w25.cell? ⟨gb4027, 2, none⟩ = some (.slice none 0 0) := (blk_cell BK4027.out 2).trans rfl
     have hfz37_0 := blk_frozen BK4027.out 0
     have hfz37_1 := blk_frozen BK4027.out 1
     have hfz37_2 := blk_frozen BK4027.out 2
     have hnb38 := NB4020_4012.out
     have hnc38 := NB4012_4020.out
     have hnb39 := NB4020_4013.out
     have hnc39 := NB4013_4020.out
     have hcz40_0 : w25.cell? ⟨gb4020, 0, none⟩ = some (.int .i64 t4014) := (blk_cell BK4020.out 0).trans rfl
     have hcz40_1 : w25.cell? ⟨gb4020, 1, none⟩ = some (.int .i64 t4015) := (blk_cell BK4020.out 1).trans rfl
     have hcz40_2 : w25.cell? ⟨gb4020, 2, none⟩ = some (.slice Ao21 t4016.length co21) := (blk_cell BK4020.out 2).trans rfl
     have hfz40_0 := blk_frozen BK4020.out 0
     have hfz40_1 := blk_frozen BK4020.out 1
     have hfz40_2 := blk_frozen BK4020.out 2
     go_wp2_with (first | (go_at_call 16; (with_reducible refine (laws_sameEdit.calls k t4021 t4022 _ _ t4023 t4014 t4015 _ _ t4016 true _ ?side1 ?side2 ?side3 ?side4 A32.out).mono ?_); (case side1 => refine (Kd.R_reads' (e := 5) (base := w.heap.size) (ok := fun k_ => (((True ∧ some k_ ≠ (.slice Ao13 t4004.length co13 : Value).ownBlock) ∧ some k_ ≠ (.slice Ao15 t4009.length co15 : Value).ownBlock) ∧ some k_ ≠ (.slice Ao21 t4016.length co21 : Value).ownBlock)) (n := t4023.length) (c := co30) ?_).2.2; exact (by (with_reducible repeat (first | apply Kd.R_alloc | apply Kd.R_drewN | apply Kd.R_drew)); exact (Kd.R_mono (Kd.R_far (p := ⟨gb4027, 2, none⟩) (Kd.R_far (p := ⟨gb4027, 1, none⟩) (Kd.R_far (p := ⟨gb4027, 0, none⟩) (Kd.R_types HO4025.out BK4027.out (by decide)) (fun _ hk => hk.2) (.int .i64 t4021)) (fun _ hk => hk.2) (.int .i64 t4022)) (fun _ hk => hk.2) (.slice Ao30 t4023.length co30)) (fun _ h_ => h_.1)))); (case side2 => exact (Kd.R_reads' HO4025.out).2.1); (case side3 => refine (Kd.R_reads' (e := 5) (base := w.heap.size) (ok := fun k_ => (((True ∧ some k_ ≠ (.slice Ao13 t4004.length co13 : Value).ownBlock) ∧ some k_ ≠ (.slice Ao15 t4009.length co15 : Value).ownBlock) ∧ some k_ ≠ (.slice Ao30 t4023.length co30 : Value).ownBlock)) (n := t4016.length) (c := co21) ?_).2.2; exact (by (with_reducible repeat (first | apply Kd.R_alloc | apply Kd.R_drewN | apply Kd.R_drew)); exact (Kd.R_mono (Kd.R_far (p := ⟨gb4027, 2, none⟩) (Kd.R_far (p := ⟨gb4027, 1, none⟩) (Kd.R_far (p := ⟨gb4027, 0, none⟩) (Kd.R_types HO4018.out BK4027.out (by decide)) (fun _ hk => hk.2) (.int .i64 t4021)) (fun _ hk => hk.2) (.int .i64 t4022)) (fun _ hk => hk.2) (.slice Ao30 t4023.length co30)) (fun _ h_ => h_.1)))); (case side4 => exact (Kd.R_reads' HO4018.out).2.1); rintro e w41 ⟨rfl, hb⟩; replace HO4006 := Aside0.mk (Kd.R_below (by (with_reducible repeat (first | apply Kd.R_alloc | apply Kd.R_drewN | apply Kd.R_drew)); exact (Kd.R_mono (Kd.R_far (p := ⟨gb4027, 2, none⟩) (Kd.R_far (p := ⟨gb4027, 1, none⟩) (Kd.R_far (p := ⟨gb4027, 0, none⟩) (Kd.R_types HO4006.out BK4027.out (by decide)) (fun _ hk => hk.2) (.int .i64 t4021)) (fun _ hk => hk.2) (.int .i64 t4022)) (fun _ hk => hk.2) (.slice Ao30 t4023.length co30)) (fun _ h_ => h_.1))) hb); replace HO4011 := Aside0.mk (Kd.R_below (by (with_reducible repeat (first | apply Kd.R_alloc | apply Kd.R_drewN | apply Kd.R_drew)); exact (Kd.R_mono (Kd.R_far (p := ⟨gb4027, 2, none⟩) (Kd.R_far (p := ⟨gb4027, 1, none⟩) (Kd.R_far (p := ⟨gb4027, 0, none⟩) (Kd.R_types HO4011.out BK4027.out (by decide)) (fun _ hk => hk.2) (.int .i64 t4021)) (fun _ hk => hk.2) (.int .i64 t4022)) (fun _ hk => hk.2) (.slice Ao30 t4023.length co30)) (fun _ h_ => h_.1))) hb); replace HO4018 := Aside0.mk (Kd.R_below (by (with_reducible repeat (first | apply Kd.R_alloc | apply Kd.R_drewN | apply Kd.R_drew)); exact (Kd.R_mono (Kd.R_far (p := ⟨gb4027, 2, none⟩) (Kd.R_far (p := ⟨gb4027, 1, none⟩) (Kd.R_far (p := ⟨gb4027, 0, none⟩) (Kd.R_types HO4018.out BK4027.out (by decide)) (fun _ hk => hk.2) (.int .i64 t4021)) (fun _ hk => hk.2) (.int .i64 t4022)) (fun _ hk => hk.2) (.slice Ao30 t4023.length co30)) (fun _ h_ => h_.1))) hb); replace HO4025 := Aside0.mk (Kd.R_below (by (with_reducible repeat (first | apply Kd.R_alloc | apply Kd.R_drewN | apply Kd.R_drew)); exact (Kd.R_mono (Kd.R_far (p := ⟨gb4027, 2, none⟩) (Kd.R_far (p := ⟨gb4027, 1, none⟩) (Kd.R_far (p := ⟨gb4027, 0, none⟩) (Kd.R_types HO4025.out BK4027.out (by decide)) (fun _ hk => hk.2) (.int .i64 t4021)) (fun _ hk => hk.2) (.int .i64 t4022)) (fun _ hk => hk.2) (.slice Ao30 t4023.length co30)) (fun _ h_ => h_.1))) hb); replace BK4012 := Aside0.mk (blk_below (g := gb4012) (o := .cells #[.int .i64 t4002, .int .i64 t4003, .slice Ao13 t4004.length co13] 25 (0, 0)) (by refine pB ?_; refine blk_far ?_ NB4012_4027.out _; refine pB ?_; refine blk_far ?_ NB4012_4027.out _; refine pB ?_; refine blk_far ?_ NB4012_4027.out _; refine pB ?_; exact BK4012.out) hb); replace BK4013 := Aside0.mk (blk_below (g := gb4013) (o := .cells #[.int .i64 t4007, .int .i64 t4008, .slice Ao15 t4009.length co15] 25 (0, 0)) (by refine pB ?_; refine blk_far ?_ NB4013_4027.out _; refine pB ?_; refine blk_far ?_ NB4013_4027.out _; refine pB ?_; refine blk_far ?_ NB4013_4027.out _; refine pB ?_; exact BK4013.out) hb); replace BK4020 := Aside0.mk (blk_below (g := gb4020) (o := .cells #[.int .i64 t4014, .int .i64 t4015, .slice Ao21 t4016.length co21] 25 (0, 0)) (by refine pB ?_; refine blk_far ?_ NB4020_4027.out _; refine pB ?_; refine blk_far ?_ NB4020_4027.out _; refine pB ?_; refine blk_far ?_ NB4020_4027.out _; refine pB ?_; exact BK4020.out) hb); replace BK4027 := Aside0.mk (blk_below (g := gb4027) (o := .cells #[.int .i64 t4021, .int .i64 t4022, .slice Ao30 t4023.length co30] 25 (0, 0)) (by refine pB ?_; refine blk_put (cs := #[.int .i64 t4021, .int .i64 t4022, .slice none 0 0]) ?_ 2 _ rfl; refine pB ?_; refine blk_put (cs := #[.int .i64 t4021, .int .i64 0, .slice none 0 0]) ?_ 1 _ rfl; refine pB ?_; refine blk_put (cs := #[.int .i64 0, .int .i64 0, .slice none 0 0]) ?_ 0 _ rfl; refine pB ?_; exact BK4027.out) hb); replace HB := Aside0.mk (below_step hbs hb); (try clear hb); (try clear hb2); (try clear hk); (try clear hi)))
     go_meet
     case rel => exact ⟨_, (!t4026), rfs, H', ⟨by first | omega | exact Nat.le_refl _⟩, ⟨by (with_reducible repeat (first | apply Kd.R_alloc | apply Kd.R_drewN | apply Kd.R_drew)); exact Kd.R_mono HO4006.out (fun _ hk => ⟨hk.1.1, ⟨hk.1.2, hk.2⟩⟩)⟩, ⟨by (with_reducible repeat (first | apply Kd.R_alloc | apply Kd.R_drewN | apply Kd.R_drew)); exact Kd.R_mono HO4011.out (fun _ hk => ⟨hk.1.1, ⟨hk.1.2, hk.2⟩⟩)⟩, ⟨by (with_reducible repeat (first | apply Kd.R_alloc | apply Kd.R_drewN | apply Kd.R_drew)); exact Kd.R_mono HO4018.out (fun _ hk => ⟨hk.1.1.2, ⟨hk.1.2, hk.2⟩⟩)⟩, ⟨by (with_reducible repeat (first | apply Kd.R_alloc | apply Kd.R_drewN | apply Kd.R_drew)); exact Kd.R_mono HO4025.out (fun _ hk => ⟨hk.1.1.2, ⟨hk.1.2, hk.2⟩⟩)⟩, ⟨by refine pB ?_; exact BK4012.out⟩, ⟨by refine pB ?_; exact BK4013.out⟩, ⟨by refine pB ?_; exact BK4020.out⟩, ⟨by refine pB ?_; exact BK4027.out⟩, ⟨hbs⟩⟩
    ·replace c33 := Bool.eq_false_iff.mpr c33
     subst c33
     have H1 : (laws_FnEditJoin.j0 k l0 t4019 t4026 true t4002 t4003 t4004 t4007 t4008 t4009 t4014 t4015 t4016 t4021 t4022 t4023) = some r := by rw [if_neg (show ¬ (false = true) by decide)] at H; exact H
     clear H
     have H := H1
     clear H1
     have H' := Aside0.mk H
     clear H
     have hnb42 := NB4027_4012.out
     have hnc42 := NB4012_4027.out
     have hnb43 := NB4027_4013.out
     have hnc43 := NB4013_4027.out
     have hnb44 := NB4027_4020.out
     have hnc44 := NB4020_4027.out
     have hcz45_0 : w25.cell? ⟨gb4027, 0, none⟩ = some (.int .i64 0) := (blk_cell BK4027.out 0).trans rfl
     have hcz45_1 : w25.cell? ⟨gb4027, 1, none⟩ = some (.int .i64 0) := (blk_cell BK4027.out 1).trans rfl
     have hcz45_2 : w25.cell? ⟨gb4027, 2, none⟩ = some (.slice none 0 0) := (blk_cell BK4027.out 2).trans rfl
     have hfz45_0 := blk_frozen BK4027.out 0
     have hfz45_1 := blk_frozen BK4027.out 1
     have hfz45_2 := blk_frozen BK4027.out 2
     have hnb46 := NB4020_4012.out
     have hnc46 := NB4012_4020.out
     have hnb47 := NB4020_4013.out
     have hnc47 := NB4013_4020.out
     have hcz48_0 : w25.cell? ⟨gb4020, 0, none⟩ = some (.int .i64 t4014) := (blk_cell BK4020.out 0).trans rfl
     have hcz48_1 : w25.cell? ⟨gb4020, 1, none⟩ = some (.int .i64 t4015) := (blk_cell BK4020.out 1).trans rfl
     have hcz48_2 : w25.cell? ⟨gb4020, 2, none⟩ = some (.slice Ao21 t4016.length co21) := (blk_cell BK4020.out 2).trans rfl
     have hfz48_0 := blk_frozen BK4020.out 0
     have hfz48_1 := blk_frozen BK4020.out 1
     have hfz48_2 := blk_frozen BK4020.out 2
     go_wp2_with (first | (go_at_call 16; (with_reducible refine (laws_sameEdit.calls k t4021 t4022 _ _ t4023 t4014 t4015 _ _ t4016 false _ ?side1 ?side2 ?side3 ?side4 A32.out).mono ?_); (case side1 => refine (Kd.R_reads' (e := 5) (base := w.heap.size) (ok := fun k_ => (((True ∧ some k_ ≠ (.slice Ao13 t4004.length co13 : Value).ownBlock) ∧ some k_ ≠ (.slice Ao15 t4009.length co15 : Value).ownBlock) ∧ some k_ ≠ (.slice Ao21 t4016.length co21 : Value).ownBlock)) (n := t4023.length) (c := co30) ?_).2.2; exact (by (with_reducible repeat (first | apply Kd.R_alloc | apply Kd.R_drewN | apply Kd.R_drew)); exact (Kd.R_mono (Kd.R_far (p := ⟨gb4027, 2, none⟩) (Kd.R_far (p := ⟨gb4027, 1, none⟩) (Kd.R_far (p := ⟨gb4027, 0, none⟩) (Kd.R_types HO4025.out BK4027.out (by decide)) (fun _ hk => hk.2) (.int .i64 t4021)) (fun _ hk => hk.2) (.int .i64 t4022)) (fun _ hk => hk.2) (.slice Ao30 t4023.length co30)) (fun _ h_ => h_.1)))); (case side2 => exact (Kd.R_reads' HO4025.out).2.1); (case side3 => refine (Kd.R_reads' (e := 5) (base := w.heap.size) (ok := fun k_ => (((True ∧ some k_ ≠ (.slice Ao13 t4004.length co13 : Value).ownBlock) ∧ some k_ ≠ (.slice Ao15 t4009.length co15 : Value).ownBlock) ∧ some k_ ≠ (.slice Ao30 t4023.length co30 : Value).ownBlock)) (n := t4016.length) (c := co21) ?_).2.2; exact (by (with_reducible repeat (first | apply Kd.R_alloc | apply Kd.R_drewN | apply Kd.R_drew)); exact (Kd.R_mono (Kd.R_far (p := ⟨gb4027, 2, none⟩) (Kd.R_far (p := ⟨gb4027, 1, none⟩) (Kd.R_far (p := ⟨gb4027, 0, none⟩) (Kd.R_types HO4018.out BK4027.out (by decide)) (fun _ hk => hk.2) (.int .i64 t4021)) (fun _ hk => hk.2) (.int .i64 t4022)) (fun _ hk => hk.2) (.slice Ao30 t4023.length co30)) (fun _ h_ => h_.1)))); (case side4 => exact (Kd.R_reads' HO4018.out).2.1); rintro e w49 ⟨rfl, hb⟩; replace HO4006 := Aside0.mk (Kd.R_below (by (with_reducible repeat (first | apply Kd.R_alloc | apply Kd.R_drewN | apply Kd.R_drew)); exact (Kd.R_mono (Kd.R_far (p := ⟨gb4027, 2, none⟩) (Kd.R_far (p := ⟨gb4027, 1, none⟩) (Kd.R_far (p := ⟨gb4027, 0, none⟩) (Kd.R_types HO4006.out BK4027.out (by decide)) (fun _ hk => hk.2) (.int .i64 t4021)) (fun _ hk => hk.2) (.int .i64 t4022)) (fun _ hk => hk.2) (.slice Ao30 t4023.length co30)) (fun _ h_ => h_.1))) hb); replace HO4011 := Aside0.mk (Kd.R_below (by (with_reducible repeat (first | apply Kd.R_alloc | apply Kd.R_drewN | apply Kd.R_drew)); exact (Kd.R_mono (Kd.R_far (p := ⟨gb4027, 2, none⟩) (Kd.R_far (p := ⟨gb4027, 1, none⟩) (Kd.R_far (p := ⟨gb4027, 0, none⟩) (Kd.R_types HO4011.out BK4027.out (by decide)) (fun _ hk => hk.2) (.int .i64 t4021)) (fun _ hk => hk.2) (.int .i64 t4022)) (fun _ hk => hk.2) (.slice Ao30 t4023.length co30)) (fun _ h_ => h_.1))) hb); replace HO4018 := Aside0.mk (Kd.R_below (by (with_reducible repeat (first | apply Kd.R_alloc | apply Kd.R_drewN | apply Kd.R_drew)); exact (Kd.R_mono (Kd.R_far (p := ⟨gb4027, 2, none⟩) (Kd.R_far (p := ⟨gb4027, 1, none⟩) (Kd.R_far (p := ⟨gb4027, 0, none⟩) (Kd.R_types HO4018.out BK4027.out (by decide)) (fun _ hk => hk.2) (.int .i64 t4021)) (fun _ hk => hk.2) (.int .i64 t4022)) (fun _ hk => hk.2) (.slice Ao30 t4023.length co30)) (fun _ h_ => h_.1))) hb); replace HO4025 := Aside0.mk (Kd.R_below (by (with_reducible repeat (first | apply Kd.R_alloc | apply Kd.R_drewN | apply Kd.R_drew)); exact (Kd.R_mono (Kd.R_far (p := ⟨gb4027, 2, none⟩) (Kd.R_far (p := ⟨gb4027, 1, none⟩) (Kd.R_far (p := ⟨gb4027, 0, none⟩) (Kd.R_types HO4025.out BK4027.out (by decide)) (fun _ hk => hk.2) (.int .i64 t4021)) (fun _ hk => hk.2) (.int .i64 t4022)) (fun _ hk => hk.2) (.slice Ao30 t4023.length co30)) (fun _ h_ => h_.1))) hb); replace BK4012 := Aside0.mk (blk_below (g := gb4012) (o := .cells #[.int .i64 t4002, .int .i64 t4003, .slice Ao13 t4004.length co13] 25 (0, 0)) (by refine pB ?_; refine blk_far ?_ NB4012_4027.out _; refine pB ?_; refine blk_far ?_ NB4012_4027.out _; refine pB ?_; refine blk_far ?_ NB4012_4027.out _; refine pB ?_; exact BK4012.out) hb); replace BK4013 := Aside0.mk (blk_below (g := gb4013) (o := .cells #[.int .i64 t4007, .int .i64 t4008, .slice Ao15 t4009.length co15] 25 (0, 0)) (by refine pB ?_; refine blk_far ?_ NB4013_4027.out _; refine pB ?_; refine blk_far ?_ NB4013_4027.out _; refine pB ?_; refine blk_far ?_ NB4013_4027.out _; refine pB ?_; exact BK4013.out) hb); replace BK4020 := Aside0.mk (blk_below (g := gb4020) (o := .cells #[.int .i64 t4014, .int .i64 t4015, .slice Ao21 t4016.length co21] 25 (0, 0)) (by refine pB ?_; refine blk_far ?_ NB4020_4027.out _; refine pB ?_; refine blk_far ?_ NB4020_4027.out _; refine pB ?_; refine blk_far ?_ NB4020_4027.out _; refine pB ?_; exact BK4020.out) hb); replace BK4027 := Aside0.mk (blk_below (g := gb4027) (o := .cells #[.int .i64 t4021, .int .i64 t4022, .slice Ao30 t4023.length co30] 25 (0, 0)) (by refine pB ?_; refine blk_put (cs := #[.int .i64 t4021, .int .i64 t4022, .slice none 0 0]) ?_ 2 _ rfl; refine pB ?_; refine blk_put (cs := #[.int .i64 t4021, .int .i64 0, .slice none 0 0]) ?_ 1 _ rfl; refine pB ?_; refine blk_put (cs := #[.int .i64 0, .int .i64 0, .slice none 0 0]) ?_ 0 _ rfl; refine pB ?_; exact BK4027.out) hb); replace HB := Aside0.mk (below_step hbs hb); (try clear hb); (try clear hb2); (try clear hk); (try clear hi)))
     go_meet
     case rel => exact ⟨_, (true), rfs, H', ⟨by first | omega | exact Nat.le_refl _⟩, ⟨by (with_reducible repeat (first | apply Kd.R_alloc | apply Kd.R_drewN | apply Kd.R_drew)); exact Kd.R_mono HO4006.out (fun _ hk => ⟨hk.1.1, ⟨hk.1.2, hk.2⟩⟩)⟩, ⟨by (with_reducible repeat (first | apply Kd.R_alloc | apply Kd.R_drewN | apply Kd.R_drew)); exact Kd.R_mono HO4011.out (fun _ hk => ⟨hk.1.1, ⟨hk.1.2, hk.2⟩⟩)⟩, ⟨by (with_reducible repeat (first | apply Kd.R_alloc | apply Kd.R_drewN | apply Kd.R_drew)); exact Kd.R_mono HO4018.out (fun _ hk => ⟨hk.1.1.2, ⟨hk.1.2, hk.2⟩⟩)⟩, ⟨by (with_reducible repeat (first | apply Kd.R_alloc | apply Kd.R_drewN | apply Kd.R_drew)); exact Kd.R_mono HO4025.out (fun _ hk => ⟨hk.1.1.2, ⟨hk.1.2, hk.2⟩⟩)⟩, ⟨by refine pB ?_; exact BK4012.out⟩, ⟨by refine pB ?_; exact BK4013.out⟩, ⟨by refine pB ?_; exact BK4020.out⟩, ⟨by refine pB ?_; exact BK4027.out⟩, ⟨hbs⟩⟩
  case rest =>
   clear HC7
   try clear c1
   try clear c2
   try clear p2
   try clear c3
   try clear c4
   try clear c11
   try clear c12
   try clear c13
   try clear c14
   try clear c15
   try clear c18
   try clear c19
   try clear c26
   try clear c27
   try clear c28
   try clear c31
   try clear c31b0
   try clear c31b1
   try clear c31b2
   try clear c33
   try clear c34
   try clear c35
   try clear c36
   try clear c38
   try clear c39
   try clear c42
   try clear c43
   try clear c44
   try clear c46
   try clear c47
   try clear hcz12_0
   try clear hcz12_1
   try clear hcz12_2
   try clear hcz14_0
   try clear hcz14_1
   try clear hcz14_2
   try clear hcz20_0
   try clear hcz20_1
   try clear hcz20_2
   try clear hcz22_0
   try clear hcz22_1
   try clear hcz22_2
   try clear hcz23_0
   try clear hcz23_1
   try clear hcz23_2
   try clear hcz29_0
   try clear hcz29_1
   try clear hcz29_2
   try clear hcz37_0
   try clear hcz37_1
   try clear hcz37_2
   try clear hcz40_0
   try clear hcz40_1
   try clear hcz40_2
   try clear hcz45_0
   try clear hcz45_1
   try clear hcz45_2
   try clear hcz48_0
   try clear hcz48_1
   try clear hcz48_2
   try clear hfz12_0
   try clear hfz12_1
   try clear hfz12_2
   try clear hfz14_0
   try clear hfz14_1
   try clear hfz14_2
   try clear hfz20_0
   try clear hfz20_1
   try clear hfz20_2
   try clear hfz22_0
   try clear hfz22_1
   try clear hfz22_2
   try clear hfz23_0
   try clear hfz23_1
   try clear hfz23_2
   try clear hfz29_0
   try clear hfz29_1
   try clear hfz29_2
   try clear hfz37_0
   try clear hfz37_1
   try clear hfz37_2
   try clear hfz40_0
   try clear hfz40_1
   try clear hfz40_2
   try clear hfz45_0
   try clear hfz45_1
   try clear hfz45_2
   try clear hfz48_0
   try clear hfz48_1
   try clear hfz48_2
   obtain ⟨kq, x48_6, rfl, HA, HJ6, HO_4013002, HO_4014002, HO_4021002, HO_4028002, BK4012, BK4013, BK4020, BK4027, HB⟩ := hcut
   cases kq with
   | zero => exact absurd HA.out (by simp [laws_FnEditJoin.j0])
   | succ kj6 =>
    have H := HA.out
    clear HA
    simp only [laws_FnEditJoin.j0] at H
    by_cases c50 : x48_6 = true
    ·subst c50
     have H1 : (if (t4026 == t4019) = true then ((laws_sameEdit.f kj6 t4021 t4022 t4023 t4014 t4015 t4016).bind fun t4029 => (some t4029)) else (some false)) = some r := by rw [if_pos rfl] at H; exact H
     clear H
     have H := H1
     clear H1
     by_cases c51 : (t4026 == t4019) = true
     ·rw [if_pos c51] at H
      have c51b0 : (t4026 == t4019) = true := c51
      (try (have c51b1 : decide (t4026 = t4019) = true := by simpa using c51))
      (try (have c51b2 : (t4026 == t4019) = true := by simpa using c51))
      clear c51
      replace H := Option.bind_eq_some_iff.mp H
      obtain ⟨t4029, A520, H⟩ := H
      replace H : (some t4029) = some r := H
      have A52 := Aside0.mk A520
      clear A520
      obtain rfl := Option.some.inj H
      have hnb53 := NB4027_4012.out
      have hnc53 := NB4012_4027.out
      have hnb54 := NB4027_4013.out
      have hnc54 := NB4013_4027.out
      have hnb55 := NB4027_4020.out
      have hnc55 := NB4020_4027.out
      have hcz56_0 : wc.cell? ⟨gb4027, 0, none⟩ = some (.int .i64 t4021) := (blk_cell BK4027.out 0).trans rfl
      have hcz56_1 : wc.cell? ⟨gb4027, 1, none⟩ = some (.int .i64 t4022) := (blk_cell BK4027.out 1).trans rfl
      have hcz56_2 : wc.cell? ⟨gb4027, 2, none⟩ = some (.slice Ao30 t4023.length co30) := (blk_cell BK4027.out 2).trans rfl
      have hfz56_0 := blk_frozen BK4027.out 0
      have hfz56_1 := blk_frozen BK4027.out 1
      have hfz56_2 := blk_frozen BK4027.out 2
      have hnb57 := NB4020_4012.out
      have hnc57 := NB4012_4020.out
      have hnb58 := NB4020_4013.out
      have hnc58 := NB4013_4020.out
      have hcz59_0 : wc.cell? ⟨gb4020, 0, none⟩ = some (.int .i64 t4014) := (blk_cell BK4020.out 0).trans rfl
      have hcz59_1 : wc.cell? ⟨gb4020, 1, none⟩ = some (.int .i64 t4015) := (blk_cell BK4020.out 1).trans rfl
      have hcz59_2 : wc.cell? ⟨gb4020, 2, none⟩ = some (.slice Ao21 t4016.length co21) := (blk_cell BK4020.out 2).trans rfl
      have hfz59_0 := blk_frozen BK4020.out 0
      have hfz59_1 := blk_frozen BK4020.out 1
      have hfz59_2 := blk_frozen BK4020.out 2
      go_wp2_with (first | (go_at_call 16; (with_reducible refine (laws_sameEdit.calls kj6 t4021 t4022 _ _ t4023 t4014 t4015 _ _ t4016 t4029 _ ?side1 ?side2 ?side3 ?side4 A52.out).mono ?_); (case side1 => exact cpl (Kd.R_reads' HO_4028002.out).2.2); (case side2 => exact (Kd.R_reads' HO_4028002.out).2.1); (case side3 => exact cpl (Kd.R_reads' HO_4021002.out).2.2); (case side4 => exact (Kd.R_reads' HO_4021002.out).2.1); rintro e w60 ⟨rfl, hb⟩; replace HO_4013002 := Aside0.mk (Kd.R_below (hrnR HO_4013002) hb); replace HO_4014002 := Aside0.mk (Kd.R_below (hrnR HO_4014002) hb); replace HO_4021002 := Aside0.mk (Kd.R_below (hrnR HO_4021002) hb); replace HO_4028002 := Aside0.mk (Kd.R_below (hrnR HO_4028002) hb); replace BK4012 := Aside0.mk (bkb BK4012 hb); replace BK4013 := Aside0.mk (bkb BK4013 hb); replace BK4020 := Aside0.mk (bkb BK4020 hb); replace BK4027 := Aside0.mk (bkb BK4027 hb); replace HB := Aside0.mk (below_step hbs hb); (try clear hb); (try clear hb2); (try clear hk); (try clear hi)))
      go_ret
      exact ⟨erf, hbs⟩
     ·rw [if_neg c51] at H
      have c51b0 : (t4026 == t4019) = false := by simpa using c51
      (try (have c51b1 : decide (t4026 = t4019) = false := by simpa using c51))
      (try (have c51b2 : (t4026 == t4019) = false := by simpa using c51))
      (try (have c51b3 : ¬ (t4026 = t4019) := by simpa using c51))
      clear c51
      obtain rfl := Option.some.inj H
      go_wp2
      go_ret
      exact ⟨erf, hbs⟩
    ·replace c50 := Bool.eq_false_iff.mpr c50
     subst c50
     have H1 : ((laws_pick.f kj6 l0 3 9).bind fun t4030 => (if 0 ≤ (mn 400 (wrap64 ((wrap64 (t4002 + t4003)) + t4030))) then (if (mn 400 (wrap64 ((wrap64 (t4002 + t4003)) + t4030)) : Int).toNat ≤ 281474976710656 then (laws_FnEditJoin.l0 kj6 (List.replicate (mn 400 (wrap64 ((wrap64 (t4002 + t4003)) + t4030)) : Int).toNat 0) 0 t4002 t4003 t4004 t4007 t4008 t4009 t4021 t4022 t4023) else (none)) else (none))) = some r := by rw [if_neg (show ¬ (false = true) by decide)] at H; exact H
     clear H
     have H := H1
     clear H1
     replace H := Option.bind_eq_some_iff.mp H
     obtain ⟨t4030, A610, H⟩ := H
     replace H : (if 0 ≤ (mn 400 (wrap64 ((wrap64 (t4002 + t4003)) + t4030))) then (if (mn 400 (wrap64 ((wrap64 (t4002 + t4003)) + t4030)) : Int).toNat ≤ 281474976710656 then (laws_FnEditJoin.l0 kj6 (List.replicate (mn 400 (wrap64 ((wrap64 (t4002 + t4003)) + t4030)) : Int).toNat 0) 0 t4002 t4003 t4004 t4007 t4008 t4009 t4021 t4022 t4023) else (none)) else (none)) = some r := H
     have A61 := Aside0.mk A610
     clear A610
     obtain ⟨ji62, hji62⟩ : ∃ j_ : Int, (mn 400 (wrap64 ((wrap64 (t4002 + t4003)) + t4030))) = j_ := ⟨_, rfl⟩
     replace H : (if 0 ≤ (ji62) then (if (ji62 : Int).toNat ≤ 281474976710656 then (laws_FnEditJoin.l0 kj6 (List.replicate (ji62 : Int).toNat 0) 0 t4002 t4003 t4004 t4007 t4008 t4009 t4021 t4022 t4023) else (none)) else (none)) = some r := by first | (rw [hji62] at H; exact H) | (simp only [hji62] at H ⊢; exact H)
     (try rw [hji62] at A61)
     have hji62_ : (if (wrap64 ((wrap64 (t4002 + t4003)) + t4030)) < 400 then (wrap64 ((wrap64 (t4002 + t4003)) + t4030)) else 400) = ji62 := hji62
     by_cases c63 : 0 ≤ (ji62)
     ·rw [if_pos c63] at H
      have c63b0 := eq_true c63
      have c63b1 : decide (0 ≤ (ji62)) = true := decide_eq_true c63
      clear c63
      by_cases c64 : (ji62 : Int).toNat ≤ 281474976710656
      ·rw [if_pos c64] at H
       have c64b0 := eq_true c64
       have c64b1 : decide ((ji62 : Int).toNat ≤ 281474976710656) = true := decide_eq_true c64
       clear c64
       obtain ⟨y4031, hy4031⟩ : ∃ y_ : List Int, y_ = (List.replicate (ji62 : Int).toNat 0) := ⟨_, rfl⟩
       replace H : (laws_FnEditJoin.l0 kj6 y4031 0 t4002 t4003 t4004 t4007 t4008 t4009 t4021 t4022 t4023) = some r := repH hy4031 H
       have Ny4031 := Aside0.mk hy4031
       clear hy4031
       have H' := Aside0.mk H
       clear H
       try go_wp2
       replace HO_4013002 := Aside0.mk (Kd.R_drew HO_4013002.out)
       replace HO_4014002 := Aside0.mk (Kd.R_drew HO_4014002.out)
       replace HO_4021002 := Aside0.mk (Kd.R_drew HO_4021002.out)
       replace HO_4028002 := Aside0.mk (Kd.R_drew HO_4028002.out)
       replace BK4012 := Aside0.mk (blk_drew BK4012.out)
       replace BK4013 := Aside0.mk (blk_drew BK4013.out)
       replace BK4020 := Aside0.mk (blk_drew BK4020.out)
       replace BK4027 := Aside0.mk (blk_drew BK4027.out)
       replace HB := Aside0.mk (below_drew1 HB.out)
       refine start_ (n := 11) (S := fun w' => w'.cell? ⟨gb4012, 0, none⟩ = some (.int .i64 t4002) ∧ w'.cell? ⟨gb4012, 1, none⟩ = some (.int .i64 t4003) ∧ w'.cell? ⟨gb4012, 2, none⟩ = some (.slice Ao13 t4004.length co13)) (ds := []) #[false, false, false, false, false, false, false, false, false, false, false] (by kernel_rfl) rfl rfl ⟨(blk_cell BK4012.out 0).trans rfl, (blk_cell BK4012.out 1).trans rfl, (blk_cell BK4012.out 2).trans rfl⟩ (fun hHeld => ?_); refine with_tabW laws_FnEditJoin.tab8 laws_FnEditJoin.bits8 (fun HT_ HW_ => ?_)
       generalize wc.drew = w65 at HO_4013002 HO_4014002 HO_4021002 HO_4028002 BK4012 BK4013 BK4020 BK4027 HB hHeld ⊢
       refine pureM 0 (some 57) #[true, false, false, false, false, false, false, false, false, false, false] (any_of HT_.out (by kernel_rfl)) ?_
       refine pureM 2 (some 59) #[true, false, true, false, false, false, false, false, false, false, false] (any_of HT_.out (by kernel_rfl)) ?_
       refine pureM 5 (some 62) #[true, false, true, false, false, true, false, false, false, false, false] (any_of HT_.out (by kernel_rfl)) ?_
       refine take_ (i := 1) (N := some 58) (v := ?_) (a' := ?_) #[true, true, true, false, false, true, false, false, false, false, false] rfl rfl (take_ofW HT_.out HW_.out (by kernel_rfl)) (fun _ _ _ h => h) (Or.inl ⟨by rfl, ?_⟩) hHeld ?_ ?_
       rotate_left
       ·rintro w' ⟨s0, s1, s2⟩
        go_simp
        with_reducible rfl
       rotate_left
       ·simp only [Act.put, List.setIfInBounds_toArray, List.set_cons_zero, List.set_cons_succ, i64_w, i32_w]
        rfl
       refine take_ (i := 3) (N := some 60) (v := ?_) (a' := ?_) #[true, true, true, true, false, true, false, false, false, false, false] rfl rfl (take_ofW HT_.out HW_.out (by kernel_rfl)) (fun _ _ _ h => h) (Or.inl ⟨by rfl, ?_⟩) hHeld ?_ ?_
       rotate_left
       ·rintro w' ⟨s0, s1, s2⟩
        go_simp
        with_reducible rfl
       rotate_left
       ·simp only [Act.put, List.setIfInBounds_toArray, List.set_cons_zero, List.set_cons_succ, i64_w, i32_w]
        rfl
       refine pureM 4 (some 61) #[true, true, true, true, true, true, false, false, false, false, false] (any_of HT_.out (by kernel_rfl)) ?_
       refine one_ (i := 6) (N := some 63) #[true, true, true, true, true, true, true, false, false, false, false] rfl rfl (one_of HT_.out (by kernel_rfl)) (by decide) (fun K hK => ?_)
       refine goes_ Tryd.func17 (by kernel_rfl) rfl #[.slice A0 l0.length c0, .int .i64 3, .int .i64 9] (by rfl) rfl rfl (by (try simp only [List.map_toArray, List.map_cons, List.map_nil]); first | done | rfl | (simp only [List.length_drop, List.length_take]; rfl)) ?_
       with_reducible refine (laws_pick.calls kj6 _ _ l0 3 9 t4030 _ ?side1 ?side2 A61.out).mono ?_
       (case side1 => exact cpl (Kd.C_below HR0.out HB.out))
       (case side2 => exact HC0.out)
       rintro e w' ⟨rfl, ⟨nd, rfl⟩⟩
       refine ⟨_, rfl, ?_⟩
       refine hK.out _ _ ⟨(blk_cell BK4012.out 0).trans rfl, (blk_cell BK4012.out 1).trans rfl, (blk_cell BK4012.out 2).trans rfl⟩ (fun hHeld => ?_)
       clear hK K
       refine norm_ (a' := ?_) ?_ ?_
       rotate_left
       ·show Act.put _ (some 63) _ = _
        simp only [Act.put, List.setIfInBounds_toArray, List.set_cons_zero, List.set_cons_succ, i64_w, i32_w]
        rfl
       refine pureM 7 (some 64) #[true, true, true, true, true, true, true, true, false, false, false] (any_of HT_.out (by kernel_rfl)) ?_
       refine pureM 8 (some 65) #[true, true, true, true, true, true, true, true, true, false, false] (any_of HT_.out (by kernel_rfl)) ?_
       refine one_ (i := 9) (N := some 66) #[true, true, true, true, true, true, true, true, true, true, false] rfl rfl (one_of HT_.out (by kernel_rfl)) (by decide) (fun K hK => ?_)
       refine Kd.R_make_step (Kd.int .u8) _ 5 (by rfl) (N := 66) rfl 22 _ _ rfl ji62 rfl rfl Tryd.underlying22 (.int .u8 0) 1 info5 rfl (by decide) (by omega) 0 (ok := fun _ => True) (okp := fun _ => True) rfl (fun _ hk => hk) trivial (odt) (Nat.le_trans (Nat.mul_le_mul_right _ (odt : ji62.toNat ≤ 281474976710656)) (by omega)) (Below.refl _ _) (Nat.le_refl _) ?_
       intro v4032 w66 ho67 hb hg_ hnew_
       clear hg_ hnew_
       (first | rw [← Ny4031.out] at ho67 | (simp only [Int.reduceToNat] at ho67; rw [← Ny4031.out] at ho67))
       have HO4033 := Aside0.mk (Kd.R_lower (Kd.R_new' (Kd.R_new' (Kd.R_new' (Kd.R_new' ho67 (Kd.R_lt (hrnR HO_4013002))) (Kd.R_lt (hrnR HO_4014002))) (Kd.R_lt (hrnR HO_4021002))) (Kd.R_lt (hrnR HO_4028002))) (below_size hbs))
       replace HO_4013002 := Aside0.mk (Kd.R_elder' (hrnR HO_4013002) (Kd.R_base ho67) hb)
       replace HO_4014002 := Aside0.mk (Kd.R_elder' (hrnR HO_4014002) (Kd.R_base ho67) hb)
       replace HO_4021002 := Aside0.mk (Kd.R_elder' (hrnR HO_4021002) (Kd.R_base ho67) hb)
       replace HO_4028002 := Aside0.mk (Kd.R_elder' (hrnR HO_4028002) (Kd.R_base ho67) hb)
       replace BK4012 := Aside0.mk (bkb BK4012 hb)
       replace BK4013 := Aside0.mk (bkb BK4013 hb)
       replace BK4020 := Aside0.mk (bkb BK4020 hb)
       replace BK4027 := Aside0.mk (bkb BK4027 hb)
       replace HB := Aside0.mk (below_step hbs hb)
       clear hb ho67
       refine hK.out _ _ ⟨(blk_cell BK4012.out 0).trans rfl, (blk_cell BK4012.out 1).trans rfl, (blk_cell BK4012.out 2).trans rfl⟩ (fun hHeld => ?_)
       clear hK K
       refine norm_ (a' := ?_) ?_ ?_
       rotate_left
       ·show Act.put _ (some 66) _ = _
        simp only [Act.put, List.setIfInBounds_toArray, List.set_cons_zero, List.set_cons_succ, i64_w, i32_w]
        rfl
       refine pureM 10 (some 9) #[true, true, true, true, true, true, true, true, true, true, true] (any_of HT_.out (by kernel_rfl)) ?_
       refine done_ (done_of HT_.out (by kernel_rfl)) ?_
       try go_wp2
       go_loopg [10] kj6 (fun kq v10 w' => ∃ (x9_2 : List Int) (x10_2 : Int), v10 = .int .i64 x10_2 ∧ Aside0 (laws_FnEditJoin.l0 kq x9_2 x10_2 t4002 t4003 t4004 t4007 t4008 t4009 t4021 t4022 t4023 = some r) ∧ Aside0 (kq ≤ kj6) ∧ Aside0 (Kd.R (Kd.int .u8) 5 w' w.heap.size (fun k_ => some k_ ≠ ((.slice Ao13 t4004.length co13) : Value).ownBlock ∧ some k_ ≠ ((.slice Ao15 t4009.length co15) : Value).ownBlock ∧ some k_ ≠ ((.slice Ao21 t4016.length co21) : Value).ownBlock ∧ some k_ ≠ ((.slice Ao30 t4023.length co30) : Value).ownBlock) v4032 x9_2) ∧ Aside0 (Kd.R (Kd.int .u8) 5 w' w.heap.size (fun k_ => some k_ ≠ (v4032 : Value).ownBlock ∧ some k_ ≠ ((.slice Ao15 t4009.length co15) : Value).ownBlock ∧ some k_ ≠ ((.slice Ao21 t4016.length co21) : Value).ownBlock ∧ some k_ ≠ ((.slice Ao30 t4023.length co30) : Value).ownBlock) (.slice Ao13 t4004.length co13) t4004) ∧ Aside0 (Kd.R (Kd.int .u8) 5 w' w.heap.size (fun k_ => some k_ ≠ (v4032 : Value).ownBlock ∧ some k_ ≠ ((.slice Ao13 t4004.length co13) : Value).ownBlock ∧ some k_ ≠ ((.slice Ao21 t4016.length co21) : Value).ownBlock ∧ some k_ ≠ ((.slice Ao30 t4023.length co30) : Value).ownBlock) (.slice Ao15 t4009.length co15) t4009) ∧ Aside0 (Kd.R (Kd.int .u8) 5 w' w.heap.size (fun k_ => some k_ ≠ (v4032 : Value).ownBlock ∧ some k_ ≠ ((.slice Ao13 t4004.length co13) : Value).ownBlock ∧ some k_ ≠ ((.slice Ao15 t4009.length co15) : Value).ownBlock ∧ some k_ ≠ ((.slice Ao30 t4023.length co30) : Value).ownBlock) (.slice Ao21 t4016.length co21) t4016) ∧ Aside0 (Kd.R (Kd.int .u8) 5 w' w.heap.size (fun k_ => some k_ ≠ (v4032 : Value).ownBlock ∧ some k_ ≠ ((.slice Ao13 t4004.length co13) : Value).ownBlock ∧ some k_ ≠ ((.slice Ao15 t4009.length co15) : Value).ownBlock ∧ some k_ ≠ ((.slice Ao21 t4016.length co21) : Value).ownBlock) (.slice Ao30 t4023.length co30) t4023) ∧ Aside0 (w'.heap[gb4012]? = some (.cells #[.int .i64 t4002, .int .i64 t4003, (.slice Ao13 t4004.length co13)] 25 (0, 0))) ∧ Aside0 (w'.heap[gb4013]? = some (.cells #[.int .i64 t4007, .int .i64 t4008, (.slice Ao15 t4009.length co15)] 25 (0, 0))) ∧ Aside0 (w'.heap[gb4020]? = some (.cells #[.int .i64 t4014, .int .i64 t4015, (.slice Ao21 t4016.length co21)] 25 (0, 0))) ∧ Aside0 (w'.heap[gb4027]? = some (.cells #[.int .i64 t4021, .int .i64 t4022, (.slice Ao30 t4023.length co30)] 25 (0, 0))) ∧ Aside0 (Below w.heap.size w w'))
       case atStart => exact ⟨(y4031), (0), rfs, H', ⟨Nat.le_refl _⟩, ⟨by (with_reducible repeat (first | apply Kd.R_alloc | apply Kd.R_drewN | apply Kd.R_drew)); exact Kd.R_mono HO4033.out (fun _ hk => ⟨hk.1.1.1.2, ⟨hk.1.1.2, ⟨hk.1.2, hk.2⟩⟩⟩)⟩, ⟨by (with_reducible repeat (first | apply Kd.R_alloc | apply Kd.R_drewN | apply Kd.R_drew)); exact Kd.R_mono HO_4013002.out (fun _ hk => ⟨hk.2, ⟨hk.1.1, ⟨hk.1.2.1, hk.1.2.2⟩⟩⟩)⟩, ⟨by (with_reducible repeat (first | apply Kd.R_alloc | apply Kd.R_drewN | apply Kd.R_drew)); exact Kd.R_mono HO_4014002.out (fun _ hk => ⟨hk.2, ⟨hk.1.1, ⟨hk.1.2.1, hk.1.2.2⟩⟩⟩)⟩, ⟨by (with_reducible repeat (first | apply Kd.R_alloc | apply Kd.R_drewN | apply Kd.R_drew)); exact Kd.R_mono HO_4021002.out (fun _ hk => ⟨hk.2, ⟨hk.1.1, ⟨hk.1.2.1, hk.1.2.2⟩⟩⟩)⟩, ⟨by (with_reducible repeat (first | apply Kd.R_alloc | apply Kd.R_drewN | apply Kd.R_drew)); exact Kd.R_mono HO_4028002.out (fun _ hk => ⟨hk.2, ⟨hk.1.1, ⟨hk.1.2.1, hk.1.2.2⟩⟩⟩)⟩, ⟨by refine pB ?_; exact BK4012.out⟩, ⟨by refine pB ?_; exact BK4013.out⟩, ⟨by refine pB ?_; exact BK4020.out⟩, ⟨by refine pB ?_; exact BK4027.out⟩, ⟨hbs⟩⟩
       case round =>
        clear H'
        try clear c1
        try clear c2
        try clear p2
        try clear c3
        try clear c4
        try clear c5
        try clear c6
        try clear p6
        try clear c11
        try clear c12
        try clear c13
        try clear c14
        try clear c15
        try clear c17
        try clear c18
        try clear c19
        try clear c26
        try clear c27
        try clear c28
        try clear c31
        try clear c31b0
        try clear c31b1
        try clear c31b2
        try clear c33
        try clear c34
        try clear c35
        try clear c36
        try clear c38
        try clear c39
        try clear c42
        try clear c43
        try clear c44
        try clear c46
        try clear c47
        try clear c50
        try clear c51
        try clear c51b0
        try clear c51b1
        try clear c51b2
        try clear c53
        try clear c54
        try clear c55
        try clear c57
        try clear c58
        try clear c63
        try clear c63b0
        try clear c63b1
        try clear c64
        try clear c64b0
        try clear c64b1
        try clear p64
        try clear hcz12_0
        try clear hcz12_1
        try clear hcz12_2
        try clear hcz14_0
        try clear hcz14_1
        try clear hcz14_2
        try clear hcz20_0
        try clear hcz20_1
        try clear hcz20_2
        try clear hcz22_0
        try clear hcz22_1
        try clear hcz22_2
        try clear hcz23_0
        try clear hcz23_1
        try clear hcz23_2
        try clear hcz29_0
        try clear hcz29_1
        try clear hcz29_2
        try clear hcz37_0
        try clear hcz37_1
        try clear hcz37_2
        try clear hcz40_0
        try clear hcz40_1
        try clear hcz40_2
        try clear hcz45_0
        try clear hcz45_1
        try clear hcz45_2
        try clear hcz48_0
        try clear hcz48_1
        try clear hcz48_2
        try clear hcz56_0
        try clear hcz56_1
        try clear hcz56_2
        try clear hcz59_0
        try clear hcz59_1
        try clear hcz59_2
        try clear hfz12_0
        try clear hfz12_1
        try clear hfz12_2
        try clear hfz14_0
        try clear hfz14_1
        try clear hfz14_2
        try clear hfz20_0
        try clear hfz20_1
        try clear hfz20_2
        try clear hfz22_0
        try clear hfz22_1
        try clear hfz22_2
        try clear hfz23_0
        try clear hfz23_1
        try clear hfz23_2
        try clear hfz29_0
        try clear hfz29_1
        try clear hfz29_2
        try clear hfz37_0
        try clear hfz37_1
        try clear hfz37_2
        try clear hfz40_0
        try clear hfz40_1
        try clear hfz40_2
        try clear hfz45_0
        try clear hfz45_1
        try clear hfz45_2
        try clear hfz48_0
        try clear hfz48_1
        try clear hfz48_2
        try clear hfz56_0
        try clear hfz56_1
        try clear hfz56_2
        try clear hfz59_0
        try clear hfz59_1
        try clear hfz59_2
        try clear p2
        obtain ⟨x9_2, x10_2, rfl, HA, HK2, HO_9, HO_4013002, HO_4014002, HO_4021002, HO_4028002, BK4012, BK4013, BK4020, BK4027, HB⟩ := hrel
        cases gk with
        | zero => exact absurd HA.out (by simp [laws_FnEditJoin.l0])
        | succ k2 =>
         have H := HA.out
         clear HA
         simp only [laws_FnEditJoin.l0] at H
         by_cases c68 : x10_2 < (x9_2.length : Int)
         ·rw [if_pos c68] at H
          have c68b0 : decide (x10_2 < (x9_2.length : Int)) = true := decide_eq_true c68
          clear c68
          by_cases c69 : 0 ≤ x10_2
          ·rw [if_pos c69] at H
           have c69b0 : decide (0 ≤ x10_2) = true := decide_eq_true c69
           clear c69
           obtain ⟨y4034, hy4034⟩ : ∃ y_ : List Int, y_ = (x9_2.set (x10_2 : Int).toNat ((wrap64 (97 + (Int.tmod x10_2 26))) % 256)) := ⟨_, rfl⟩
           replace H : (laws_FnEditJoin.l0 k2 y4034 (wrap64 (x10_2 + 1)) t4002 t4003 t4004 t4007 t4008 t4009 t4021 t4022 t4023) = some r := repH hy4034 H
           have Ny4034 := Aside0.mk hy4034
           clear hy4034
           have H' := Aside0.mk H
           clear H
           obtain ⟨Ao71, co71, eo71⟩ := Kd.R_slice HO_9.out
           subst eo71
           have p70 : 0 ≤ (x10_2 : Int) := odt
           have q70 : (x10_2 : Int) < ((x9_2.length : Int) : Int) := odt
           obtain ⟨go70, co70, eo70, gb70, gl70, cl70, HG70⟩ := Kd.R_form HO_9.out (by omega)
           (first | cases eo70 | (injection eo70 with ea_ en_ ec_; (first | subst ea_ | (injection ea_ with ea_; subst ea_)); subst ec_; clear en_))
           have GB70 := Aside0.mk gb70
           have GG70 := Aside0.mk HG70
           clear gb70 gl70 HG70
           obtain ⟨hx70_0, hf70_0⟩ := Kd.R_celln 0 HO_9.out (x10_2 : Int) p70 q70
           replace p70 := eq_true p70
           replace q70 := eq_true q70
           have HP72 := Kd.R_putg HO_9.out (x10_2 : Int) ((wrap64 (97 + (Int.tmod x10_2 26))) % 256)
           go_wp2_with (first | ((with_reducible refine gate_store (t := 5) (p := 79) rfl ?_); refine store_event (t := 5) (p := 79) (v := ?vo_w73) (w1 := (wr.setCell ⟨go70, (x10_2 : Int).toNat, none⟩ (.int .u8 ((wrap64 (97 + (Int.tmod x10_2 26))) % 256)))) ?hg ?ho ?hn ?hr ?_; (case ho => rfl); (case hg => rfl); (case hn => rfl); (case hr => first | (go_simp; done) | (go_simp; rfl)); intro w73 hw; have hg : wr.grownBy w73 (some go70) := (by rw [hw]; exact HP72.2); have hp_ : Kd.R (Kd.int .u8) 5 w73 w.heap.size (fun k_ => some k_ ≠ (.slice Ao13 t4004.length co13 : Value).ownBlock ∧ some k_ ≠ (.slice Ao15 t4009.length co15 : Value).ownBlock ∧ some k_ ≠ (.slice Ao21 t4016.length co21 : Value).ownBlock ∧ some k_ ≠ (.slice Ao30 t4023.length co30 : Value).ownBlock) (.slice (some ⟨go70, 0, none⟩) x9_2.length co71) y4034 := (by rw [hw, Ny4034.out]; exact HP72.1); clear HP72; replace HO_4013002 := Aside0.mk (Kd.R_after (v := (.slice (some ⟨go70, 0, none⟩) x9_2.length co71)) (v1 := (.slice (some ⟨go70, 0, none⟩) x9_2.length co71)) (ok := (fun k_ => some k_ ≠ (.slice Ao15 t4009.length co15 : Value).ownBlock ∧ some k_ ≠ (.slice Ao21 t4016.length co21 : Value).ownBlock ∧ some k_ ≠ (.slice Ao30 t4023.length co30 : Value).ownBlock)) (by (with_reducible repeat (first | apply Kd.R_alloc | apply Kd.R_drewN | apply Kd.R_drew)); exact Kd.R_mono HO_4013002.out (fun _ hk => ⟨⟨hk.2.1, ⟨hk.2.2.1, hk.2.2.2⟩⟩, hk.1⟩)) hg (.inl rfl)); replace HO_4014002 := Aside0.mk (Kd.R_after (v := (.slice (some ⟨go70, 0, none⟩) x9_2.length co71)) (v1 := (.slice (some ⟨go70, 0, none⟩) x9_2.length co71)) (ok := (fun k_ => some k_ ≠ (.slice Ao13 t4004.length co13 : Value).ownBlock ∧ some k_ ≠ (.slice Ao21 t4016.length co21 : Value).ownBlock ∧ some k_ ≠ (.slice Ao30 t4023.length co30 : Value).ownBlock)) (by (with_reducible repeat (first | apply Kd.R_alloc | apply Kd.R_drewN | apply Kd.R_drew)); exact Kd.R_mono HO_4014002.out (fun _ hk => ⟨⟨hk.2.1, ⟨hk.2.2.1, hk.2.2.2⟩⟩, hk.1⟩)) hg (.inl rfl)); replace HO_4021002 := Aside0.mk (Kd.R_after (v := (.slice (some ⟨go70, 0, none⟩) x9_2.length co71)) (v1 := (.slice (some ⟨go70, 0, none⟩) x9_2.length co71)) (ok := (fun k_ => some k_ ≠ (.slice Ao13 t4004.length co13 : Value).ownBlock ∧ some k_ ≠ (.slice Ao15 t4009.length co15 : Value).ownBlock ∧ some k_ ≠ (.slice Ao30 t4023.length co30 : Value).ownBlock)) (by (with_reducible repeat (first | apply Kd.R_alloc | apply Kd.R_drewN | apply Kd.R_drew)); exact Kd.R_mono HO_4021002.out (fun _ hk => ⟨⟨hk.2.1, ⟨hk.2.2.1, hk.2.2.2⟩⟩, hk.1⟩)) hg (.inl rfl)); replace HO_4028002 := Aside0.mk (Kd.R_after (v := (.slice (some ⟨go70, 0, none⟩) x9_2.length co71)) (v1 := (.slice (some ⟨go70, 0, none⟩) x9_2.length co71)) (ok := (fun k_ => some k_ ≠ (.slice Ao13 t4004.length co13 : Value).ownBlock ∧ some k_ ≠ (.slice Ao15 t4009.length co15 : Value).ownBlock ∧ some k_ ≠ (.slice Ao21 t4016.length co21 : Value).ownBlock)) (by (with_reducible repeat (first | apply Kd.R_alloc | apply Kd.R_drewN | apply Kd.R_drew)); exact Kd.R_mono HO_4028002.out (fun _ hk => ⟨⟨hk.2.1, ⟨hk.2.2.1, hk.2.2.2⟩⟩, hk.1⟩)) hg (.inl rfl)); replace BK4012 := Aside0.mk (blk_grown (g := gb4012) (o := .cells #[.int .i64 t4002, .int .i64 t4003, .slice Ao13 t4004.length co13] 25 (0, 0)) (by refine pB ?_; exact BK4012.out) hg (Kd.R_ne HO_9.out BK4012.out (by decide))); replace BK4013 := Aside0.mk (blk_grown (g := gb4013) (o := .cells #[.int .i64 t4007, .int .i64 t4008, .slice Ao15 t4009.length co15] 25 (0, 0)) (by refine pB ?_; exact BK4013.out) hg (Kd.R_ne HO_9.out BK4013.out (by decide))); replace BK4020 := Aside0.mk (blk_grown (g := gb4020) (o := .cells #[.int .i64 t4014, .int .i64 t4015, .slice Ao21 t4016.length co21] 25 (0, 0)) (by refine pB ?_; exact BK4020.out) hg (Kd.R_ne HO_9.out BK4020.out (by decide))); replace BK4027 := Aside0.mk (blk_grown (g := gb4027) (o := .cells #[.int .i64 t4021, .int .i64 t4022, .slice Ao30 t4023.length co30] 25 (0, 0)) (by refine pB ?_; exact BK4027.out) hg (Kd.R_ne HO_9.out BK4027.out (by decide))); replace HO_9 := Aside0.mk (hp_); replace HB := Aside0.mk ((by rw [hw]; exact below_set (HB.out) GB70.out : Below w.heap.size w w73)); clear hg hw hp_))
           go_roundg k2
           case measure => have := HJ6.out; have := HK2.out; omega
           case rel => exact ⟨(y4034), (wrap64 (x10_2 + 1)), rfs, H', ⟨by have := HJ6.out; have := HK2.out; omega⟩, ⟨(hrnR HO_9)⟩, ⟨by (with_reducible repeat (first | apply Kd.R_alloc | apply Kd.R_drewN | apply Kd.R_drew)); exact Kd.R_mono HO_4013002.out (fun _ hk => ⟨hk.2, ⟨hk.1.1, ⟨hk.1.2.1, hk.1.2.2⟩⟩⟩)⟩, ⟨by (with_reducible repeat (first | apply Kd.R_alloc | apply Kd.R_drewN | apply Kd.R_drew)); exact Kd.R_mono HO_4014002.out (fun _ hk => ⟨hk.2, ⟨hk.1.1, ⟨hk.1.2.1, hk.1.2.2⟩⟩⟩)⟩, ⟨by (with_reducible repeat (first | apply Kd.R_alloc | apply Kd.R_drewN | apply Kd.R_drew)); exact Kd.R_mono HO_4021002.out (fun _ hk => ⟨hk.2, ⟨hk.1.1, ⟨hk.1.2.1, hk.1.2.2⟩⟩⟩)⟩, ⟨by (with_reducible repeat (first | apply Kd.R_alloc | apply Kd.R_drewN | apply Kd.R_drew)); exact Kd.R_mono HO_4028002.out (fun _ hk => ⟨hk.2, ⟨hk.1.1, ⟨hk.1.2.1, hk.1.2.2⟩⟩⟩)⟩, ⟨by refine pB ?_; exact BK4012.out⟩, ⟨by refine pB ?_; exact BK4013.out⟩, ⟨by refine pB ?_; exact BK4020.out⟩, ⟨by refine pB ?_; exact BK4027.out⟩, ⟨hbs⟩⟩
          ·rw [if_neg c69] at H
           exact absurd H (by simp)
         ·rw [if_neg c68] at H
          have c68b0 : decide (x10_2 < (x9_2.length : Int)) = false := decide_eq_false c68
          clear c68
          replace H := Option.bind_eq_some_iff.mp H
          obtain ⟨⟨t4035, t4038⟩, A740, H⟩ := H
          replace H : ((spec_EditDo.f k2 t4035 t4007 t4008 t4009).bind fun bt4039 => ((impl_EditDo.f k2 x9_2 t4021 t4022 t4023).bind fun bt4043 => (if t4038 = true then (if bt4039.2 = true then (if bt4043.2 = true then (laws_FnEditJoin.j2 k2 ((strOfNums bt4039.1).toList == (strOfNums bt4043.1).toList)) else (laws_FnEditJoin.j2 k2 false)) else (laws_FnEditJoin.j2 k2 true)) else (laws_FnEditJoin.j2 k2 true)))) = some r := H
          have A74 := Aside0.mk A740
          clear A740
          replace H := Option.bind_eq_some_iff.mp H
          obtain ⟨⟨t4039, t4042⟩, A750, H⟩ := H
          replace H : ((impl_EditDo.f k2 x9_2 t4021 t4022 t4023).bind fun bt4043 => (if t4038 = true then (if t4042 = true then (if bt4043.2 = true then (laws_FnEditJoin.j2 k2 ((strOfNums t4039).toList == (strOfNums bt4043.1).toList)) else (laws_FnEditJoin.j2 k2 false)) else (laws_FnEditJoin.j2 k2 true)) else (laws_FnEditJoin.j2 k2 true))) = some r := H
          have A75 := Aside0.mk A750
          clear A750
          replace H := Option.bind_eq_some_iff.mp H
          obtain ⟨⟨t4043, t4046⟩, A760, H⟩ := H
          replace H : (if t4038 = true then (if t4042 = true then (if t4046 = true then (laws_FnEditJoin.j2 k2 ((strOfNums t4039).toList == (strOfNums t4043).toList)) else (laws_FnEditJoin.j2 k2 false)) else (laws_FnEditJoin.j2 k2 true)) else (laws_FnEditJoin.j2 k2 true)) = some r := H
          have A76 := Aside0.mk A760
          clear A760
          have HC77 := Aside0.mk H
          clear H
          obtain ⟨Ao78, co78, eo78⟩ := Kd.R_slice HO_9.out
          subst eo78
          have hnb79 := NB4012_4013.out
          have hnc79 := NB4013_4012.out
          have hnb80 := NB4012_4020.out
          have hnc80 := NB4020_4012.out
          have hnb81 := NB4012_4027.out
          have hnc81 := NB4027_4012.out
          have hcz82_0 : wr.cell? ⟨gb4012, 0, none⟩ = some (.int .i64 t4002) := (blk_cell BK4012.out 0).trans rfl
          have hcz82_1 : wr.cell? ⟨gb4012, 1, none⟩ = some (.int .i64 t4003) := (blk_cell BK4012.out 1).trans rfl
          have hcz82_2 : wr.cell? ⟨gb4012, 2, none⟩ = some (.slice Ao13 t4004.length co13) := (blk_cell BK4012.out 2).trans rfl
          have hfz82_0 := blk_frozen BK4012.out 0
          have hfz82_1 := blk_frozen BK4012.out 1
          have hfz82_2 := blk_frozen BK4012.out 2
          go_upto_region 16 with (first | ((with_reducible refine gate_callee (f := 18) rfl ?_); refine goesM (some 83) Tryd.func18 #[.slice Ao78 x9_2.length co78, .agg #[.int .i64 t4002, .int .i64 t4003, .slice Ao13 t4004.length co13]] ?_; (with_reducible refine (spec_EditDo.calls k2 _ _ x9_2 t4002 t4003 _ _ t4004 t4035 t4038 _ ?side1 ?side2 ?side3 ?side4 A74.out).mono ?_); (case side1 => exact cpl (Kd.R_reads' HO_9.out).2.2); (case side2 => exact (Kd.R_reads' HO_9.out).2.1); (case side3 => exact cpl (Kd.R_reads' HO_4013002.out).2.2); (case side4 => exact (Kd.R_reads' HO_4013002.out).2.1); rintro e w83 ⟨v4036, rfl, ho0, hb⟩; refine ⟨_, rfl, ?_⟩; have HO4037 := Aside0.mk (Kd.R_lower (Kd.R_new' (Kd.R_new' (Kd.R_new' (Kd.R_new' (Kd.R_new' ho0 (Kd.R_lt (hrnR HO_9))) (Kd.R_lt (hrnR HO_4013002))) (Kd.R_lt (hrnR HO_4014002))) (Kd.R_lt (hrnR HO_4021002))) (Kd.R_lt (hrnR HO_4028002))) (below_size hbs)); replace HO_9 := Aside0.mk (Kd.R_elder' (hrnR HO_9) (Kd.R_base ho0) hb); replace HO_4013002 := Aside0.mk (Kd.R_elder' (hrnR HO_4013002) (Kd.R_base ho0) hb); replace HO_4014002 := Aside0.mk (Kd.R_elder' (hrnR HO_4014002) (Kd.R_base ho0) hb); replace HO_4021002 := Aside0.mk (Kd.R_elder' (hrnR HO_4021002) (Kd.R_base ho0) hb); replace HO_4028002 := Aside0.mk (Kd.R_elder' (hrnR HO_4028002) (Kd.R_base ho0) hb); replace BK4012 := Aside0.mk (bkb BK4012 hb); replace BK4013 := Aside0.mk (bkb BK4013 hb); replace BK4020 := Aside0.mk (bkb BK4020 hb); replace BK4027 := Aside0.mk (bkb BK4027 hb); replace HB := Aside0.mk (below_step hbs hb); (try clear hb); (try clear hb2); (try clear hk); (try clear hi); (try clear ho0); have hnb84 := NB4013_4020.out; have hnc84 := NB4020_4013.out; have hnb85 := NB4013_4027.out; have hnc85 := NB4027_4013.out; have hcz86_0 : w83.cell? ⟨gb4013, 0, none⟩ = some (.int .i64 t4007) := (blk_cell BK4013.out 0).trans rfl; have hcz86_1 : w83.cell? ⟨gb4013, 1, none⟩ = some (.int .i64 t4008) := (blk_cell BK4013.out 1).trans rfl; have hcz86_2 : w83.cell? ⟨gb4013, 2, none⟩ = some (.slice Ao15 t4009.length co15) := (blk_cell BK4013.out 2).trans rfl; have hfz86_0 := blk_frozen BK4013.out 0; have hfz86_1 := blk_frozen BK4013.out 1; have hfz86_2 := blk_frozen BK4013.out 2; obtain ⟨Ao87, co87, eo87⟩ := Kd.R_slice HO4037.out; subst eo87) | ((with_reducible refine gate_callee (f := 18) rfl ?_); refine goesM (some 89) Tryd.func18 #[.slice Ao87 t4035.length co87, .agg #[.int .i64 t4007, .int .i64 t4008, .slice Ao15 t4009.length co15]] ?_; (with_reducible refine (spec_EditDo.calls k2 _ _ t4035 t4007 t4008 _ _ t4009 t4039 t4042 _ ?side1 ?side2 ?side3 ?side4 A75.out).mono ?_); (case side1 => exact cpl (Kd.R_reads' HO4037.out).2.2); (case side2 => exact (Kd.R_reads' HO4037.out).2.1); (case side3 => exact cpl (Kd.R_reads' HO_4014002.out).2.2); (case side4 => exact (Kd.R_reads' HO_4014002.out).2.1); rintro e w88 ⟨v4040, rfl, ho0, hb⟩; refine ⟨_, rfl, ?_⟩; have HO4041 := Aside0.mk (Kd.R_lower (Kd.R_new' (Kd.R_new' (Kd.R_new' (Kd.R_new' (Kd.R_new' (Kd.R_new' ho0 (Kd.R_lt (hrnR HO_9))) (Kd.R_lt (hrnR HO_4013002))) (Kd.R_lt (hrnR HO_4014002))) (Kd.R_lt (hrnR HO_4021002))) (Kd.R_lt (hrnR HO_4028002))) (Kd.R_lt (hrnR HO4037))) (below_size hbs)); replace HO_9 := Aside0.mk (Kd.R_elder' (hrnR HO_9) (Kd.R_base ho0) hb); replace HO_4013002 := Aside0.mk (Kd.R_elder' (hrnR HO_4013002) (Kd.R_base ho0) hb); replace HO_4014002 := Aside0.mk (Kd.R_elder' (hrnR HO_4014002) (Kd.R_base ho0) hb); replace HO_4021002 := Aside0.mk (Kd.R_elder' (hrnR HO_4021002) (Kd.R_base ho0) hb); replace HO_4028002 := Aside0.mk (Kd.R_elder' (hrnR HO_4028002) (Kd.R_base ho0) hb); replace HO4037 := Aside0.mk (Kd.R_elder' (hrnR HO4037) (Kd.R_base ho0) hb); replace BK4012 := Aside0.mk (bkb BK4012 hb); replace BK4013 := Aside0.mk (bkb BK4013 hb); replace BK4020 := Aside0.mk (bkb BK4020 hb); replace BK4027 := Aside0.mk (bkb BK4027 hb); replace HB := Aside0.mk (below_step hbs hb); (try clear hb); (try clear hb2); (try clear hk); (try clear hi); (try clear ho0); have hnb89 := NB4027_4020.out; have hnc89 := NB4020_4027.out; have hcz90_0 : w88.cell? ⟨gb4027, 0, none⟩ = some (.int .i64 t4021) := (blk_cell BK4027.out 0).trans rfl; have hcz90_1 : w88.cell? ⟨gb4027, 1, none⟩ = some (.int .i64 t4022) := (blk_cell BK4027.out 1).trans rfl; have hcz90_2 : w88.cell? ⟨gb4027, 2, none⟩ = some (.slice Ao30 t4023.length co30) := (blk_cell BK4027.out 2).trans rfl; have hfz90_0 := blk_frozen BK4027.out 0; have hfz90_1 := blk_frozen BK4027.out 1; have hfz90_2 := blk_frozen BK4027.out 2) | ((with_reducible refine gate_callee (f := 19) rfl ?_); refine goesM (some 95) Tryd.func19 #[.slice Ao78 x9_2.length co78, .agg #[.int .i64 t4021, .int .i64 t4022, .slice Ao30 t4023.length co30]] ?_; (with_reducible refine (impl_EditDo.calls k2 _ _ x9_2 t4021 t4022 _ _ t4023 t4043 t4046 _ ?side1 ?side2 ?side3 ?side4 ?side5 A76.out).mono ?_); (case side1 => exact cpl (Kd.R_reads' HO_9.out).2.2); (case side2 => exact (Kd.R_reads' HO_9.out).2.1); (case side3 => exact cpl (Kd.R_reads' HO_4028002.out).2.2); (case side4 => exact (Kd.R_reads' HO_4028002.out).2.1); (case side5 => exact GTab.below hG hbs); rintro e w91 ⟨v4044, rfl, ho0, hb⟩; refine ⟨_, rfl, ?_⟩; have HO4045 := Aside0.mk (Kd.R_lower (Kd.R_new' (Kd.R_new' (Kd.R_new' (Kd.R_new' (Kd.R_new' (Kd.R_new' (Kd.R_new' ho0 (Kd.R_lt (hrnR HO_9))) (Kd.R_lt (hrnR HO_4013002))) (Kd.R_lt (hrnR HO_4014002))) (Kd.R_lt (hrnR HO_4021002))) (Kd.R_lt (hrnR HO_4028002))) (Kd.R_lt (hrnR HO4037))) (Kd.R_lt (hrnR HO4041))) (below_size hbs)); replace HO_9 := Aside0.mk (Kd.R_elder' (hrnR HO_9) (Kd.R_base ho0) hb); replace HO_4013002 := Aside0.mk (Kd.R_elder' (hrnR HO_4013002) (Kd.R_base ho0) hb); replace HO_4014002 := Aside0.mk (Kd.R_elder' (hrnR HO_4014002) (Kd.R_base ho0) hb); replace HO_4021002 := Aside0.mk (Kd.R_elder' (hrnR HO_4021002) (Kd.R_base ho0) hb); replace HO_4028002 := Aside0.mk (Kd.R_elder' (hrnR HO_4028002) (Kd.R_base ho0) hb); replace HO4037 := Aside0.mk (Kd.R_elder' (hrnR HO4037) (Kd.R_base ho0) hb); replace HO4041 := Aside0.mk (Kd.R_elder' (hrnR HO4041) (Kd.R_base ho0) hb); replace BK4012 := Aside0.mk (bkb BK4012 hb); replace BK4013 := Aside0.mk (bkb BK4013 hb); replace BK4020 := Aside0.mk (bkb BK4020 hb); replace BK4027 := Aside0.mk (bkb BK4027 hb); replace HB := Aside0.mk (below_step hbs hb); (try clear hb); (try clear hb2); (try clear hk); (try clear hi); (try clear ho0)))
          (try simp only [Act.put, List.setIfInBounds_toArray, List.set_cons_zero, List.set_cons_succ])
          go_cut [2] (fun v2 wc => ∃ (kq : Nat) (x2_76 : Bool), v2 = .bool x2_76 ∧ Aside0 (laws_FnEditJoin.j2 kq x2_76 = some r) ∧ Aside0 (kq ≤ k2) ∧ Aside0 (Kd.R (Kd.int .u8) 5 wc w.heap.size (fun k_ => some k_ ≠ ((.slice Ao15 t4009.length co15) : Value).ownBlock ∧ some k_ ≠ ((.slice Ao21 t4016.length co21) : Value).ownBlock ∧ some k_ ≠ ((.slice Ao30 t4023.length co30) : Value).ownBlock) (.slice Ao13 t4004.length co13) t4004) ∧ Aside0 (Kd.R (Kd.int .u8) 5 wc w.heap.size (fun k_ => some k_ ≠ ((.slice Ao13 t4004.length co13) : Value).ownBlock ∧ some k_ ≠ ((.slice Ao21 t4016.length co21) : Value).ownBlock ∧ some k_ ≠ ((.slice Ao30 t4023.length co30) : Value).ownBlock) (.slice Ao15 t4009.length co15) t4009) ∧ Aside0 (Kd.R (Kd.int .u8) 5 wc w.heap.size (fun k_ => some k_ ≠ ((.slice Ao13 t4004.length co13) : Value).ownBlock ∧ some k_ ≠ ((.slice Ao15 t4009.length co15) : Value).ownBlock ∧ some k_ ≠ ((.slice Ao30 t4023.length co30) : Value).ownBlock) (.slice Ao21 t4016.length co21) t4016) ∧ Aside0 (Kd.R (Kd.int .u8) 5 wc w.heap.size (fun k_ => some k_ ≠ ((.slice Ao13 t4004.length co13) : Value).ownBlock ∧ some k_ ≠ ((.slice Ao15 t4009.length co15) : Value).ownBlock ∧ some k_ ≠ ((.slice Ao21 t4016.length co21) : Value).ownBlock) (.slice Ao30 t4023.length co30) t4023) ∧ Aside0 (wc.heap[gb4012]? = some (.cells #[.int .i64 t4002, .int .i64 t4003, (.slice Ao13 t4004.length co13)] 25 (0, 0))) ∧ Aside0 (wc.heap[gb4013]? = some (.cells #[.int .i64 t4007, .int .i64 t4008, (.slice Ao15 t4009.length co15)] 25 (0, 0))) ∧ Aside0 (wc.heap[gb4020]? = some (.cells #[.int .i64 t4014, .int .i64 t4015, (.slice Ao21 t4016.length co21)] 25 (0, 0))) ∧ Aside0 (wc.heap[gb4027]? = some (.cells #[.int .i64 t4021, .int .i64 t4022, (.slice Ao30 t4023.length co30)] 25 (0, 0))) ∧ Aside0 (Below w.heap.size w wc))
          case first =>
           have H := HC77.out
           clear HC77
           by_cases c92 : t4038 = true
           ·subst c92
            have H1 : (if t4042 = true then (if t4046 = true then (laws_FnEditJoin.j2 k2 ((strOfNums t4039).toList == (strOfNums t4043).toList)) else (laws_FnEditJoin.j2 k2 false)) else (laws_FnEditJoin.j2 k2 true)) = some r := by rw [if_pos rfl] at H; exact H
            clear H
            have H := H1
            clear H1
            by_cases c93 : t4042 = true
            ·subst c93
             have H1 : (if t4046 = true then (laws_FnEditJoin.j2 k2 ((strOfNums t4039).toList == (strOfNums t4043).toList)) else (laws_FnEditJoin.j2 k2 false)) = some r := by rw [if_pos rfl] at H; exact H
             clear H
             have H := H1
             clear H1
             by_cases c94 : t4046 = true
             ·subst c94
              have H1 : (laws_FnEditJoin.j2 k2 ((strOfNums t4039).toList == (strOfNums t4043).toList)) = some r := by rw [if_pos rfl] at H; exact H
              clear H
              have H := H1
              clear H1
              have H' := Aside0.mk H
              clear H
              have hcv95 := own_string (P := Tryd.prog) Tryd.underlying22 Tryd.underlying5 Tryd.underlying9 (Kd.own_of_R HO4041.out)
              have hcv96 := own_string (P := Tryd.prog) Tryd.underlying22 Tryd.underlying5 Tryd.underlying9 (Kd.own_of_R HO4045.out)
              go_wp2
              go_meet
              case rel => exact ⟨_, (((strOfNums t4039).toList == (strOfNums t4043).toList)), rfs, H', ⟨by have := HJ6.out; have := HK2.out; first | omega | exact Nat.le_refl _⟩, ⟨by (with_reducible repeat (first | apply Kd.R_alloc | apply Kd.R_drewN | apply Kd.R_drew)); exact Kd.R_mono HO_4013002.out (fun _ hk => ⟨hk.1.1.1.2.1, ⟨hk.1.1.1.2.2.1, hk.1.1.1.2.2.2⟩⟩)⟩, ⟨by (with_reducible repeat (first | apply Kd.R_alloc | apply Kd.R_drewN | apply Kd.R_drew)); exact Kd.R_mono HO_4014002.out (fun _ hk => ⟨hk.1.1.1.2.1, ⟨hk.1.1.1.2.2.1, hk.1.1.1.2.2.2⟩⟩)⟩, ⟨by (with_reducible repeat (first | apply Kd.R_alloc | apply Kd.R_drewN | apply Kd.R_drew)); exact Kd.R_mono HO_4021002.out (fun _ hk => ⟨hk.1.1.1.2.1, ⟨hk.1.1.1.2.2.1, hk.1.1.1.2.2.2⟩⟩)⟩, ⟨by (with_reducible repeat (first | apply Kd.R_alloc | apply Kd.R_drewN | apply Kd.R_drew)); exact Kd.R_mono HO_4028002.out (fun _ hk => ⟨hk.1.1.1.2.1, ⟨hk.1.1.1.2.2.1, hk.1.1.1.2.2.2⟩⟩)⟩, ⟨by refine pB ?_; exact BK4012.out⟩, ⟨by refine pB ?_; exact BK4013.out⟩, ⟨by refine pB ?_; exact BK4020.out⟩, ⟨by refine pB ?_; exact BK4027.out⟩, ⟨hbs⟩⟩
             ·replace c94 := Bool.eq_false_iff.mpr c94
              subst c94
              have H1 : (laws_FnEditJoin.j2 k2 false) = some r := by rw [if_neg (show ¬ (false = true) by decide)] at H; exact H
              clear H
              have H := H1
              clear H1
              have H' := Aside0.mk H
              clear H
              go_wp2
              go_meet
              case rel => exact ⟨_, (false), rfs, H', ⟨by have := HJ6.out; have := HK2.out; first | omega | exact Nat.le_refl _⟩, ⟨by (with_reducible repeat (first | apply Kd.R_alloc | apply Kd.R_drewN | apply Kd.R_drew)); exact Kd.R_mono HO_4013002.out (fun _ hk => ⟨hk.1.1.1.2.1, ⟨hk.1.1.1.2.2.1, hk.1.1.1.2.2.2⟩⟩)⟩, ⟨by (with_reducible repeat (first | apply Kd.R_alloc | apply Kd.R_drewN | apply Kd.R_drew)); exact Kd.R_mono HO_4014002.out (fun _ hk => ⟨hk.1.1.1.2.1, ⟨hk.1.1.1.2.2.1, hk.1.1.1.2.2.2⟩⟩)⟩, ⟨by (with_reducible repeat (first | apply Kd.R_alloc | apply Kd.R_drewN | apply Kd.R_drew)); exact Kd.R_mono HO_4021002.out (fun _ hk => ⟨hk.1.1.1.2.1, ⟨hk.1.1.1.2.2.1, hk.1.1.1.2.2.2⟩⟩)⟩, ⟨by (with_reducible repeat (first | apply Kd.R_alloc | apply Kd.R_drewN | apply Kd.R_drew)); exact Kd.R_mono HO_4028002.out (fun _ hk => ⟨hk.1.1.1.2.1, ⟨hk.1.1.1.2.2.1, hk.1.1.1.2.2.2⟩⟩)⟩, ⟨by refine pB ?_; exact BK4012.out⟩, ⟨by refine pB ?_; exact BK4013.out⟩, ⟨by refine pB ?_; exact BK4020.out⟩, ⟨by refine pB ?_; exact BK4027.out⟩, ⟨hbs⟩⟩
            ·replace c93 := Bool.eq_false_iff.mpr c93
             subst c93
             have H1 : (laws_FnEditJoin.j2 k2 true) = some r := by rw [if_neg (show ¬ (false = true) by decide)] at H; exact H
             clear H
             have H := H1
             clear H1
             have H' := Aside0.mk H
             clear H
             go_wp2
             go_meet
             case rel => exact ⟨_, (true), rfs, H', ⟨by have := HJ6.out; have := HK2.out; first | omega | exact Nat.le_refl _⟩, ⟨by (with_reducible repeat (first | apply Kd.R_alloc | apply Kd.R_drewN | apply Kd.R_drew)); exact Kd.R_mono HO_4013002.out (fun _ hk => ⟨hk.1.1.1.2.1, ⟨hk.1.1.1.2.2.1, hk.1.1.1.2.2.2⟩⟩)⟩, ⟨by (with_reducible repeat (first | apply Kd.R_alloc | apply Kd.R_drewN | apply Kd.R_drew)); exact Kd.R_mono HO_4014002.out (fun _ hk => ⟨hk.1.1.1.2.1, ⟨hk.1.1.1.2.2.1, hk.1.1.1.2.2.2⟩⟩)⟩, ⟨by (with_reducible repeat (first | apply Kd.R_alloc | apply Kd.R_drewN | apply Kd.R_drew)); exact Kd.R_mono HO_4021002.out (fun _ hk => ⟨hk.1.1.1.2.1, ⟨hk.1.1.1.2.2.1, hk.1.1.1.2.2.2⟩⟩)⟩, ⟨by (with_reducible repeat (first | apply Kd.R_alloc | apply Kd.R_drewN | apply Kd.R_drew)); exact Kd.R_mono HO_4028002.out (fun _ hk => ⟨hk.1.1.1.2.1, ⟨hk.1.1.1.2.2.1, hk.1.1.1.2.2.2⟩⟩)⟩, ⟨by refine pB ?_; exact BK4012.out⟩, ⟨by refine pB ?_; exact BK4013.out⟩, ⟨by refine pB ?_; exact BK4020.out⟩, ⟨by refine pB ?_; exact BK4027.out⟩, ⟨hbs⟩⟩
           ·replace c92 := Bool.eq_false_iff.mpr c92
            subst c92
            have H1 : (laws_FnEditJoin.j2 k2 true) = some r := by rw [if_neg (show ¬ (false = true) by decide)] at H; exact H
            clear H
            have H := H1
            clear H1
            have H' := Aside0.mk H
            clear H
            go_wp2
            go_meet
            case rel => exact ⟨_, (true), rfs, H', ⟨by have := HJ6.out; have := HK2.out; first | omega | exact Nat.le_refl _⟩, ⟨by (with_reducible repeat (first | apply Kd.R_alloc | apply Kd.R_drewN | apply Kd.R_drew)); exact Kd.R_mono HO_4013002.out (fun _ hk => ⟨hk.1.1.1.2.1, ⟨hk.1.1.1.2.2.1, hk.1.1.1.2.2.2⟩⟩)⟩, ⟨by (with_reducible repeat (first | apply Kd.R_alloc | apply Kd.R_drewN | apply Kd.R_drew)); exact Kd.R_mono HO_4014002.out (fun _ hk => ⟨hk.1.1.1.2.1, ⟨hk.1.1.1.2.2.1, hk.1.1.1.2.2.2⟩⟩)⟩, ⟨by (with_reducible repeat (first | apply Kd.R_alloc | apply Kd.R_drewN | apply Kd.R_drew)); exact Kd.R_mono HO_4021002.out (fun _ hk => ⟨hk.1.1.1.2.1, ⟨hk.1.1.1.2.2.1, hk.1.1.1.2.2.2⟩⟩)⟩, ⟨by (with_reducible repeat (first | apply Kd.R_alloc | apply Kd.R_drewN | apply Kd.R_drew)); exact Kd.R_mono HO_4028002.out (fun _ hk => ⟨hk.1.1.1.2.1, ⟨hk.1.1.1.2.2.1, hk.1.1.1.2.2.2⟩⟩)⟩, ⟨by refine pB ?_; exact BK4012.out⟩, ⟨by refine pB ?_; exact BK4013.out⟩, ⟨by refine pB ?_; exact BK4020.out⟩, ⟨by refine pB ?_; exact BK4027.out⟩, ⟨hbs⟩⟩
          case rest =>
           clear HC77
           try clear c1
           try clear c2
           try clear p2
           try clear c3
           try clear c4
           try clear c5
           try clear c6
           try clear p6
           try clear c7
           try clear p7
           try clear q7
           try clear hx7
           try clear hf7
           try clear c8
           try clear c9
           try clear hcv9
           try clear c11
           try clear c12
           try clear c13
           try clear c14
           try clear c15
           try clear c17
           try clear c18
           try clear c19
           try clear c26
           try clear c27
           try clear c28
           try clear c31
           try clear c31b0
           try clear c31b1
           try clear c31b2
           try clear c33
           try clear c34
           try clear c35
           try clear c36
           try clear c38
           try clear c39
           try clear c42
           try clear c43
           try clear c44
           try clear c46
           try clear c47
           try clear c50
           try clear c51
           try clear c51b0
           try clear c51b1
           try clear c51b2
           try clear c53
           try clear c54
           try clear c55
           try clear c57
           try clear c58
           try clear c63
           try clear c63b0
           try clear c63b1
           try clear c64
           try clear c64b0
           try clear c64b1
           try clear p64
           try clear c68
           try clear c68b0
           try clear c69
           try clear c69b0
           try clear p70
           try clear q70
           try clear hx70
           try clear hf70
           try clear c79
           try clear c80
           try clear c81
           try clear c84
           try clear c85
           try clear c89
           try clear c92
           try clear c93
           try clear c94
           try clear hcv95
           try clear hcv96
           try clear hcz12_0
           try clear hcz12_1
           try clear hcz12_2
           try clear hcz14_0
           try clear hcz14_1
           try clear hcz14_2
           try clear hcz20_0
           try clear hcz20_1
           try clear hcz20_2
           try clear hcz22_0
           try clear hcz22_1
           try clear hcz22_2
           try clear hcz23_0
           try clear hcz23_1
           try clear hcz23_2
           try clear hcz29_0
           try clear hcz29_1
           try clear hcz29_2
           try clear hcz37_0
           try clear hcz37_1
           try clear hcz37_2
           try clear hcz40_0
           try clear hcz40_1
           try clear hcz40_2
           try clear hcz45_0
           try clear hcz45_1
           try clear hcz45_2
           try clear hcz48_0
           try clear hcz48_1
           try clear hcz48_2
           try clear hcz56_0
           try clear hcz56_1
           try clear hcz56_2
           try clear hcz59_0
           try clear hcz59_1
           try clear hcz59_2
           try clear hcz82_0
           try clear hcz82_1
           try clear hcz82_2
           try clear hcz86_0
           try clear hcz86_1
           try clear hcz86_2
           try clear hcz90_0
           try clear hcz90_1
           try clear hcz90_2
           try clear hfz12_0
           try clear hfz12_1
           try clear hfz12_2
           try clear hfz14_0
           try clear hfz14_1
           try clear hfz14_2
           try clear hfz20_0
           try clear hfz20_1
           try clear hfz20_2
           try clear hfz22_0
           try clear hfz22_1
           try clear hfz22_2
           try clear hfz23_0
           try clear hfz23_1
           try clear hfz23_2
           try clear hfz29_0
           try clear hfz29_1
           try clear hfz29_2
           try clear hfz37_0
           try clear hfz37_1
           try clear hfz37_2
           try clear hfz40_0
           try clear hfz40_1
           try clear hfz40_2
           try clear hfz45_0
           try clear hfz45_1
           try clear hfz45_2
           try clear hfz48_0
           try clear hfz48_1
           try clear hfz48_2
           try clear hfz56_0
           try clear hfz56_1
           try clear hfz56_2
           try clear hfz59_0
           try clear hfz59_1
           try clear hfz59_2
           try clear hfz82_0
           try clear hfz82_1
           try clear hfz82_2
           try clear hfz86_0
           try clear hfz86_1
           try clear hfz86_2
           try clear hfz90_0
           try clear hfz90_1
           try clear hfz90_2
           try clear hx70_0
           try clear p2
           try clear p6
           try clear p64
           try clear p70
           try clear q70
           obtain ⟨kq, x2_76, rfl, HA, HJ76, HO_4013002, HO_4014002, HO_4021002, HO_4028002, BK4012, BK4013, BK4020, BK4027, HB⟩ := hcut
           cases kq with
           | zero => exact absurd HA.out (by simp [laws_FnEditJoin.j2])
           | succ kj76 =>
            have H := HA.out
            clear HA
            simp only [laws_FnEditJoin.j2] at H
            obtain rfl := Option.some.inj H
            go_wp2
            go_ret
            exact ⟨by first | rfl | (simp [errW_none, errW_some] <;> rfl) | (simp only [← hji62]; first | rfl | (simp [errW_none, errW_some] <;> rfl)) | (simp [*, errW_none, errW_some] <;> rfl), hbs⟩
      ·rw [if_neg c64] at H
       exact absurd H (by simp)
     ·rw [if_neg c63] at H
      exact absurd H (by simp)
def laws_FnEditJoin.Pure : Prop := ∀ (l0 : List Int), l0.length ≤ maxLen → l0.length * 1 ≤ 140737488351232 → (∀ x ∈ l0, (Lit.int .u8 x).wf = true) → ∃ k, laws_FnEditJoin.f k l0 = some true
theorem laws_FnEditJoin.walk (P : laws_FnEditJoin.Pure) (a0 : Option Addr) (len0 cap0 : Nat) (z0 : List Int) (w : World) (w0 : (a0 = none ∧ len0 = 0 ∧ cap0 = 0 ∧ z0 = []) ∨ ∃ x, a0 = some x ∧ len0 ≤ cap0 ∧ cap0 ≤ maxLen ∧ z0.length = cap0 ∧ (∀ i, i < z0.length → w.cell? (x.add i) = some (.int .u8 (z0.getD i 0))) ∧ ∀ n ∈ z0, (Lit.int .u8 n).wf = true) (y0 : len0 * 1 ≤ 140737488351232) (hG : GTab w) :
  Calls Tryd.prog 3 #[.slice a0 len0 cap0] w fun e w' => e = .returned (.bool true) ∧ Below w.heap.size w w' := by
 obtain ⟨l0, rfl, hr0, hm0, hw0, hc0⟩ := ReadsInt.ofRowC w0
 obtain ⟨k, h⟩ := P l0 hm0 y0 hw0
 refine (laws_FnEditJoin.calls k _ _ l0 true w (Kd.C_of_reads (d := (0 : Int)) (h1 := fun _ => rfl) hr0) hc0 hG h).mono ?_
 rintro e w' ⟨rfl, hd⟩
 exact ⟨rfl, hd⟩
end Go.Proofs.YteapbiiffcchbaaDoor.P
namespace Go.Proofs.YteapbiiffcchbaaDoor.V
open Go.RowKit Go.Proofs.YteapbiiffcchbaaDoorW.PrintWords Go.Proofs.YteapbiiffcchbaaDoorW.PrintMore Go.Proofs.YteapbiiffcchbaaDoor.P Go.Proofs.YteapbiiffcchbaaDoor.G
set_option linter.unusedVariables false
set_option linter.unusedSimpArgs false
def Ev {α : Type} (f : Nat → Option α) (v : α) : Prop := ∃ K, ∀ k, K ≤ k → f k = some v
section
variable {α β : Type} {f : Nat → Option α} {v : α} {g : Nat → α → Option β} {u : β}
theorem Ev.pure (v : α) : Ev (fun _ => some v) v := ⟨0, fun _ _ => rfl⟩
theorem Ev.const {o : Option α} (h : o = some v) : Ev (fun _ => o) v := ⟨0, fun _ _ => h⟩
theorem Ev.bind (h : Ev f v) (h2 : Ev (fun k => g k v) u) : Ev (fun k => (f k).bind (g k)) u := by
  obtain ⟨K, hK⟩ := h
  obtain ⟨L, hL⟩ := h2
  exact ⟨max K L, fun k hk => by show (f k).bind (g k) = _; rw [hK k (by omega)]; exact hL k (by omega)⟩
theorem Ev.succ (h : Ev (fun k => f (k + 1)) v) : Ev f v := by
  obtain ⟨K, hK⟩ := h
  exact ⟨K + 1, fun k hk => by obtain ⟨m, rfl⟩ : ∃ m, k = m + 1 := ⟨k - 1, by omega⟩; exact hK m (by omega)⟩
theorem Ev.congr {f' : Nat → Option α} (h : Ev f' v) (e : ∀ k, f k = f' k) : Ev f v := by
  obtain ⟨K, hK⟩ := h
  exact ⟨K, fun k hk => by rw [e k]; exact hK k hk⟩
theorem Ev.of (h : Ev f v) : ∃ k, f k = some v := let ⟨K, hK⟩ := h; ⟨K, hK K (Nat.le_refl _)⟩
theorem Ev.eq {v' : α} (h : Ev f v) (e : v = v') : Ev f v' := e ▸ h
end
def B (l : List Int) : Prop := ∀ x ∈ l, 0 ≤ x ∧ x ≤ 255
theorem B.nil : B [] := by intro x hx; cases hx
theorem B.app {a b : List Int} (ha : B a) (hb : B b) : B (a ++ b) := fun x hx => (List.mem_append.1 hx).elim (ha x) (hb x)
theorem B.left {a b : List Int} (h : B (a ++ b)) : B a := fun x hx => h x (List.mem_append.2 (.inl hx))
theorem B.right {a b : List Int} (h : B (a ++ b)) : B b := fun x hx => h x (List.mem_append.2 (.inr hx))
theorem B.take {a : List Int} (h : B a) (n : Nat) : B (a.take n) := fun x hx => h x (List.mem_of_mem_take hx)
theorem B.drop {a : List Int} (h : B a) (n : Nat) : B (a.drop n) := fun x hx => h x (List.mem_of_mem_drop hx)
theorem B.cons {x : Int} {a : List Int} (h : B (x :: a)) : (0 ≤ x ∧ x ≤ 255) ∧ B a := ⟨h x (by simp), fun y hy => h y (by simp [hy])⟩
theorem B.mk {x : Int} {a : List Int} (h : 0 ≤ x ∧ x ≤ 255) (ha : B a) : B (x :: a) := fun y hy => by rcases List.mem_cons.1 hy with rfl | hy; exact h; exact ha y hy
theorem B.of_wf {l : List Int} (h : ∀ x ∈ l, (Lit.int .u8 x).wf = true) : B l := fun x hx => by
  have := h x hx
  simp [Lit.wf, IntKind.min, IntKind.max, IntKind.bits, IntKind.signed] at this
  omega
theorem getD_lt {l : List Int} {n : Nat} (h : n < l.length) : l.getD n 0 = l[n] := by rw [List.getD_eq_getElem?_getD, List.getElem?_eq_getElem h]; rfl
theorem getD_ge {l : List Int} {n : Nat} (h : l.length ≤ n) : l.getD n 0 = 0 := by rw [List.getD_eq_getElem?_getD, List.getElem?_eq_none h]; rfl
theorem B.rd {l : List Int} (h : B l) (i : Int) : 0 ≤ rd l i ∧ rd l i ≤ 255 := by
  by_cases c : i.toNat < l.length
  · show 0 ≤ l.getD i.toNat 0 ∧ l.getD i.toNat 0 ≤ 255
    rw [getD_lt c]
    exact h _ (List.getElem_mem _)
  · show 0 ≤ l.getD i.toNat 0 ∧ l.getD i.toNat 0 ≤ 255
    rw [getD_ge (by omega)]
    omega
theorem wrap64_id {n : Int} (h0 : -9223372036854775808 ≤ n) (h1 : n ≤ 9223372036854775807) : wrap64 n = n := by unfold wrap64; omega
theorem ofNat_inj {x y : Int} (hx : 0 ≤ x ∧ x ≤ 255) (hy : 0 ≤ y ∧ y ≤ 255) (h : UInt8.ofNat x.toNat = UInt8.ofNat y.toNat) : x = y := by
  have := congrArg UInt8.toNat h
  simp at this
  omega
theorem bytes_inj : ∀ {a b : List Int}, B a → B b → Lib.bytesOf a = Lib.bytesOf b → a = b
  | [], [], _, _, _ => rfl
  | [], _ :: _, _, _, h => by simp [Lib.bytesOf] at h
  | _ :: _, [], _, _, h => by simp [Lib.bytesOf] at h
  | x :: a, y :: b, ha, hb, h => by
    simp only [Lib.bytesOf, List.map_cons, List.cons.injEq] at h
    rw [ofNat_inj ha.cons.1 hb.cons.1 h.1, bytes_inj ha.cons.2 hb.cons.2 h.2]
theorem str_eq {a b : List Int} (ha : B a) (hb : B b) : (strOfNums a).toList = (strOfNums b).toList ↔ a = b := by
  rw [Lib.strOfNums_toList, Lib.strOfNums_toList]
  exact ⟨bytes_inj ha hb, fun h => by rw [h]⟩
def rbytes (a : Int) : List Int :=
  if a < 0 ∨ a > 1114111 ∨ (55296 ≤ a ∧ a ≤ 57343) then [] else if a < 128 then [a] else if a < 2048 then [192 + a / 64, 128 + a % 64]
  else if a < 65536 then [224 + a / 4096, 128 + a / 64 % 64, 128 + a % 64] else [240 + a / 262144, 128 + a / 4096 % 64, 128 + a / 64 % 64, 128 + a % 64]
theorem rbytes_B (a : Int) : B (rbytes a) := by
  intro x hx
  unfold rbytes at hx
  repeat' split at hx
  all_goals simp at hx
  all_goals omega
theorem RuneBytes_ev (a : Int) : Ev (fun k => spec_RuneBytes.f k a) (rbytes a) := by
  refine ⟨1, fun k hk => ?_⟩
  obtain ⟨k, rfl⟩ : ∃ m, k = m + 1 := ⟨k - 1, by omega⟩
  have key : ∀ x : Bool, x = decide (a < 0 ∨ a > 1114111 ∨ (55296 ≤ a ∧ a ≤ 57343)) → spec_RuneBytes.j0 (k + 1) a x = some (rbytes a) := by
    intro x hx
    subst hx
    show (if decide (a < 0 ∨ a > 1114111 ∨ (55296 ≤ a ∧ a ≤ 57343)) = true then _ else _) = _
    unfold rbytes
    by_cases c : a < 0 ∨ a > 1114111 ∨ (55296 ≤ a ∧ a ≤ 57343)
    · rw [if_pos (by simpa using c), if_pos c]
    · rw [if_neg (by simpa using c), if_neg c]
      have h0 : 0 ≤ a := by omega
      have h1 : a ≤ 1114111 := by omega
      have t : ∀ b : Int, 0 < b → Int.tdiv a b = a / b := fun b _ => Int.tdiv_eq_ediv_of_nonneg h0
      rw [t 64 (by omega), t 4096 (by omega), t 262144 (by omega), Int.tmod_eq_emod_of_nonneg h0]
      rw [wrap64_id (n := a / 64) (by omega) (by omega), wrap64_id (n := a / 4096) (by omega) (by omega), wrap64_id (n := a / 262144) (by omega) (by omega)]
      rw [Int.tmod_eq_emod_of_nonneg (a := a / 64) (by omega), Int.tmod_eq_emod_of_nonneg (a := a / 4096) (by omega)]
      simp only [wrap64]
      split
      · congr 2; omega
      split
      · congr 2; omega; congr 1; omega
      split
      · congr 2; omega; congr 1; omega; congr 1; omega
      · congr 2; omega; congr 1; omega; congr 1; omega; congr 1; omega
  show spec_RuneBytes.f (k + 1) a = _
  unfold spec_RuneBytes.f
  by_cases c1 : a < 0
  · rw [if_pos c1]; exact key _ (by simp [c1])
  rw [if_neg c1]
  by_cases c2 : a > 1114111
  · rw [if_pos c2]; exact key _ (by simp [c2])
  rw [if_neg c2]
  by_cases c3 : a ≥ 55296
  · rw [if_pos c3]; exact key _ (by simp [c1, c2, c3])
  · rw [if_neg c3]; exact key _ (by simp [c1, c2]; omega)
def rsz (n b0 b1 b2 b3 : Int) : Int :=
  if n ≤ 0 then 0 else if b0 < 128 then 1 else if b0 < 194 then 0
  else if b0 < 224 then (if 2 ≤ n ∧ 128 ≤ b1 ∧ b1 ≤ 191 then 2 else 0)
  else if b0 < 240 then (if 3 ≤ n ∧ (if b0 = 224 then 160 else 128) ≤ b1 ∧ b1 ≤ (if b0 = 237 then 159 else 191) ∧ 128 ≤ b2 ∧ b2 ≤ 191 then 3 else 0)
  else if b0 < 245 then (if 4 ≤ n ∧ (if b0 = 240 then 144 else 128) ≤ b1 ∧ b1 ≤ (if b0 = 244 then 143 else 191) ∧ 128 ≤ b2 ∧ b2 ≤ 191 ∧ 128 ≤ b3 ∧ b3 ≤ 191 then 4 else 0)
  else 0
def rsAt (l : List Int) (i : Int) : Int := rsz ((l.length : Int) - i) (rd l i) (rd l (i + 1)) (rd l (i + 2)) (rd l (i + 3))
theorem drop_cons {l : List Int} {i : Int} (h0 : 0 ≤ i) (h1 : i < (l.length : Int)) : l.drop i.toNat = rd l i :: l.drop (i + 1).toNat := by
  rw [List.drop_eq_getElem_cons (show i.toNat < l.length by omega), show (i + 1).toNat = i.toNat + 1 by omega]
  unfold rd
  rw [getD_lt (show i.toNat < l.length by omega)]
theorem seg {l : List Int} {i m : Int} (h0 : 0 ≤ i) (hm : 0 ≤ m) : (l.take (i + m).toNat).drop i.toNat = (l.drop i.toNat).take m.toNat := by
  rw [List.drop_take, show (i + m).toNat - i.toNat = m.toNat by omega]
theorem len_drop {l : List Int} {i : Int} (h0 : 0 ≤ i) (h1 : i ≤ (l.length : Int)) : ((l.drop i.toNat).length : Int) = (l.length : Int) - i := by rw [List.length_drop]; omega
theorem seg1 {l : List Int} {i : Int} (h0 : 0 ≤ i) (h1 : i + 1 ≤ (l.length : Int)) : (l.take (i + 1).toNat).drop i.toNat = [rd l i] := by
  rw [seg h0 (by omega), drop_cons h0 (by omega)]; rfl
theorem seg2 {l : List Int} {i : Int} (h0 : 0 ≤ i) (h1 : i + 2 ≤ (l.length : Int)) : (l.take (i + 2).toNat).drop i.toNat = [rd l i, rd l (i + 1)] := by
  rw [seg h0 (by omega), drop_cons h0 (by omega), drop_cons (i := i + 1) (by omega) (by omega)]; rfl
theorem seg3 {l : List Int} {i : Int} (h0 : 0 ≤ i) (h1 : i + 3 ≤ (l.length : Int)) : (l.take (i + 3).toNat).drop i.toNat = [rd l i, rd l (i + 1), rd l (i + 2)] := by
  rw [seg h0 (by omega), drop_cons h0 (by omega), drop_cons (i := i + 1) (by omega) (by omega), drop_cons (i := i + 1 + 1) (by omega) (by omega), show i + 1 + 1 = i + 2 by omega]; rfl
theorem seg4 {l : List Int} {i : Int} (h0 : 0 ≤ i) (h1 : i + 4 ≤ (l.length : Int)) : (l.take (i + 4).toNat).drop i.toNat = [rd l i, rd l (i + 1), rd l (i + 2), rd l (i + 3)] := by
  rw [seg h0 (by omega), drop_cons h0 (by omega), drop_cons (i := i + 1) (by omega) (by omega), drop_cons (i := i + 1 + 1) (by omega) (by omega), drop_cons (i := i + 1 + 1 + 1) (by omega) (by omega), show i + 1 + 1 + 1 = i + 3 by omega, show i + 1 + 1 = i + 2 by omega]; rfl
theorem l01Rune_end {l : List Int} (hB : B l) (hl : (l.length : Int) ≤ 1000000000000) {i m v : Int} (h0 : 0 ≤ i) (hm : 1 ≤ m) (h1 : i + m ≤ (l.length : Int)) : Ev (fun k => spec_l01Rune.l0 k l i m v m) (if rbytes v = (l.take (i + m).toNat).drop i.toNat then (v, m) else (-1, 0)) := by
  apply Ev.succ
  simp only [spec_l01Rune.l0, Int.lt_irrefl, if_false]
  refine Ev.bind (RuneBytes_ev v) ?_
  rw [wrap64_id (n := i + m) (by omega) (by omega), if_pos h0, if_pos (by omega), if_pos h1]
  refine Ev.const ?_
  simp only [str_eq (rbytes_B v) ((hB.take _).drop _)]
  split <;> rfl
theorem l01Rune_round {l : List Int} (hl : (l.length : Int) ≤ 1000000000000) {i m v j : Int} {u : Int × Int} (h0 : 0 ≤ i) (hj : 0 ≤ j) (hjm : j < m) (h1 : i + m ≤ (l.length : Int)) (h : Ev (fun k => spec_l01Rune.l0 k l i m (wrap64 (wrap64 (wrap64 (64 * v) + wrap64 (rd l (i + j))) - 128)) (j + 1)) u) : Ev (fun k => spec_l01Rune.l0 k l i m v j) u := by
  apply Ev.succ
  simp only [spec_l01Rune.l0, if_pos hjm]
  rw [wrap64_id (n := i + j) (by omega) (by omega), wrap64_id (n := j + 1) (by omega) (by omega)]
  simp only [if_pos (show 0 ≤ i + j by omega), if_pos (show i + j < (l.length : Int) by omega)]
  exact h
theorem num4 (n b0 b1 b2 b3 : Int) (hn : 4 ≤ n) (h0 : 240 ≤ b0) (h0' : b0 < 256) (B1 : 0 ≤ b1 ∧ b1 ≤ 255) (B2 : 0 ≤ b2 ∧ b2 ≤ 255) (B3 : 0 ≤ b3 ∧ b3 ≤ 255) :
    (if rbytes (64 * (64 * (64 * (b0 - 240) + b1 - 128) + b2 - 128) + b3 - 128) = [b0, b1, b2, b3] then (4 : Int) else 0) = rsz n b0 b1 b2 b3 := by
  obtain ⟨v, hv⟩ : ∃ v, 64 * (64 * (64 * (b0 - 240) + b1 - 128) + b2 - 128) + b3 - 128 = v := ⟨_, rfl⟩
  rw [hv]
  by_cases c : rbytes v = [b0, b1, b2, b3]
  · rw [if_pos c]
    unfold rbytes at c
    unfold rsz
    repeat' split at c
    all_goals simp only [List.cons.injEq, and_true, reduceCtorEq, and_false, List.nil_eq] at c
    all_goals (repeat' split) <;> omega
  · rw [if_neg c]
    unfold rsz
    repeat' split
    all_goals first | rfl | omega | (exfalso; apply c; unfold rbytes; repeat' split)
    all_goals first | omega | (simp only [List.cons.injEq, and_true]; omega)
theorem rsz_short4 (n b0 b1 b2 b3 : Int) (hn : n < 4) (h0 : 240 ≤ b0) (h0' : b0 < 256) : rsz n b0 b1 b2 b3 = 0 := by
  unfold rsz
  repeat' split
  all_goals first | rfl | omega
theorem num3 (n b0 b1 b2 b3 : Int) (hn : 3 ≤ n) (h0 : 224 ≤ b0) (h0' : b0 < 240) (B1 : 0 ≤ b1 ∧ b1 ≤ 255) (B2 : 0 ≤ b2 ∧ b2 ≤ 255) (B3 : 0 ≤ b3 ∧ b3 ≤ 255) :
    (if rbytes (64 * (64 * (b0 - 224) + b1 - 128) + b2 - 128) = [b0, b1, b2] then (3 : Int) else 0) = rsz n b0 b1 b2 b3 := by
  obtain ⟨v, hv⟩ : ∃ v, 64 * (64 * (b0 - 224) + b1 - 128) + b2 - 128 = v := ⟨_, rfl⟩
  rw [hv]
  by_cases c : rbytes v = [b0, b1, b2]
  · rw [if_pos c]
    unfold rbytes at c
    unfold rsz
    repeat' split at c
    all_goals simp only [List.cons.injEq, and_true, reduceCtorEq, and_false, List.nil_eq] at c
    all_goals (repeat' split) <;> omega
  · rw [if_neg c]
    unfold rsz
    repeat' split
    all_goals first | rfl | omega | (exfalso; apply c; unfold rbytes; repeat' split)
    all_goals first | omega | (simp only [List.cons.injEq, and_true]; omega)
theorem rsz_short3 (n b0 b1 b2 b3 : Int) (hn : n < 3) (h0 : 224 ≤ b0) (h0' : b0 < 240) : rsz n b0 b1 b2 b3 = 0 := by
  unfold rsz
  repeat' split
  all_goals first | rfl | omega
theorem num2 (n b0 b1 b2 b3 : Int) (hn : 2 ≤ n) (h0 : 192 ≤ b0) (h0' : b0 < 224) (B1 : 0 ≤ b1 ∧ b1 ≤ 255) (B2 : 0 ≤ b2 ∧ b2 ≤ 255) (B3 : 0 ≤ b3 ∧ b3 ≤ 255) :
    (if rbytes (64 * (b0 - 192) + b1 - 128) = [b0, b1] then (2 : Int) else 0) = rsz n b0 b1 b2 b3 := by
  obtain ⟨v, hv⟩ : ∃ v, 64 * (b0 - 192) + b1 - 128 = v := ⟨_, rfl⟩
  rw [hv]
  by_cases c : rbytes v = [b0, b1]
  · rw [if_pos c]
    unfold rbytes at c
    unfold rsz
    repeat' split at c
    all_goals simp only [List.cons.injEq, and_true, reduceCtorEq, and_false, List.nil_eq] at c
    all_goals (repeat' split) <;> omega
  · rw [if_neg c]
    unfold rsz
    repeat' split
    all_goals first | rfl | omega | (exfalso; apply c; unfold rbytes; repeat' split)
    all_goals first | omega | (simp only [List.cons.injEq, and_true]; omega)
theorem rsz_short2 (n b0 b1 b2 b3 : Int) (hn : n < 2) (h0 : 192 ≤ b0) (h0' : b0 < 224) : rsz n b0 b1 b2 b3 = 0 := by
  unfold rsz
  repeat' split
  all_goals first | rfl | omega
theorem l01Rune_size {l : List Int} (hB : B l) (hl : (l.length : Int) ≤ 1000000000000) {i : Int} (h0 : 0 ≤ i) : ∃ v, Ev (fun k => spec_l01Rune.f k l i) (v, rsAt l i) := by
  by_cases hi : i ≥ (l.length : Int)
  · refine ⟨-1, Ev.succ ?_⟩
    simp only [spec_l01Rune.f, if_neg (show ¬ i < 0 by omega), hi, decide_true, spec_l01Rune.j0, if_true]
    refine Ev.const ?_
    simp [rsAt, rsz, show (l.length : Int) - i ≤ 0 by omega]
  obtain ⟨b0, hb0⟩ : ∃ b, rd l i = b := ⟨_, rfl⟩
  obtain ⟨b1, hb1⟩ : ∃ b, rd l (i + 1) = b := ⟨_, rfl⟩
  obtain ⟨b2, hb2⟩ : ∃ b, rd l (i + 2) = b := ⟨_, rfl⟩
  obtain ⟨b3, hb3⟩ : ∃ b, rd l (i + 3) = b := ⟨_, rfl⟩
  have B0 := hB.rd i
  have B1 := hB.rd (i + 1)
  have B2 := hB.rd (i + 2)
  have B3 := hB.rd (i + 3)
  rw [hb0] at B0
  rw [hb1] at B1
  rw [hb2] at B2
  rw [hb3] at B3
  have hn : ¬ (l.length : Int) - i ≤ 0 := by omega
  have go : ∀ m v, 1 ≤ m → (∃ u, Ev (fun k => spec_l01Rune.j1 k l i m v) (u, rsAt l i)) → (∀ k, spec_l01Rune.f (k + 1) l i = spec_l01Rune.j1 k l i m v) → ∃ u, Ev (fun k => spec_l01Rune.f k l i) (u, rsAt l i) := fun m v _ ⟨u, hu⟩ e => ⟨u, Ev.succ (hu.congr e)⟩
  have hd : ∀ k, spec_l01Rune.f (k + 1) l i = (if b0 ≥ 240 then (spec_l01Rune.j1 k l i 4 (wrap64 (b0 - 240))) else (if b0 ≥ 224 then (spec_l01Rune.j1 k l i 3 (wrap64 (b0 - 224))) else (if b0 ≥ 192 then (spec_l01Rune.j1 k l i 2 (wrap64 (b0 - 192))) else (spec_l01Rune.j1 k l i 1 b0)))) := by
    intro k
    simp only [spec_l01Rune.f, spec_l01Rune.j0, if_neg (show ¬ i < 0 by omega), show decide (i ≥ (l.length : Int)) = false by simp; omega, if_pos h0, if_pos (show i < (l.length : Int) by omega), hb0, wrap64_id (n := b0) (by omega) (by omega)]
    simp
  have short : ∀ m v, 1 ≤ m → m ≤ 4 → (l.length : Int) - i < m → Ev (fun k => spec_l01Rune.j1 k l i m v) (-1, 0) := by
    intro m v h1 h4 hs
    apply Ev.succ
    simp only [spec_l01Rune.j1, wrap64_id (n := (l.length : Int) - i) (by omega) (by omega), if_pos (show m > (l.length : Int) - i by omega)]
    exact Ev.pure _
  have long : ∀ m v u, 1 ≤ m → m ≤ 4 → m ≤ (l.length : Int) - i → Ev (fun k => spec_l01Rune.l0 k l i m v 1) u → Ev (fun k => spec_l01Rune.j1 k l i m v) u := by
    intro m v u h1 h4 hs h
    apply Ev.succ
    simp only [spec_l01Rune.j1, wrap64_id (n := (l.length : Int) - i) (by omega) (by omega), if_neg (show ¬ m > (l.length : Int) - i by omega)]
    exact h
  by_cases c4 : b0 ≥ 240
  · refine go 4 (wrap64 (b0 - 240)) (by omega) ?_ (fun k => by rw [hd, if_pos c4])
    rw [wrap64_id (n := b0 - 240) (by omega) (by omega)]
    by_cases hs : (l.length : Int) - i < 4
    · refine ⟨-1, (short 4 _ (by omega) (by omega) hs).eq ?_⟩
      rw [rsAt, hb0, hb1, hb2, hb3, rsz_short4 _ _ _ _ _ (by omega) (by omega) (by omega)]
    have e := l01Rune_end hB hl (v := 64 * (64 * (64 * (b0 - 240) + b1 - 128) + b2 - 128) + b3 - 128) h0 (by omega) (show i + 4 ≤ (l.length : Int) by omega)
    have e := l01Rune_round hl (v := 64 * (64 * (b0 - 240) + b1 - 128) + b2 - 128) h0 (j := 3) (by omega) (by omega) (show i + 4 ≤ (l.length : Int) by omega) (e.congr (fun k => by rw [hb3, wrap64_id (n := 64 * _) (by omega) (by omega), wrap64_id (n := b3) (by omega) (by omega), wrap64_id (n := _ + b3) (by omega) (by omega), wrap64_id (n := _ - 128) (by omega) (by omega)]; rfl))
    have e := l01Rune_round hl (v := 64 * (b0 - 240) + b1 - 128) h0 (j := 2) (by omega) (by omega) (show i + 4 ≤ (l.length : Int) by omega) (e.congr (fun k => by rw [hb2, wrap64_id (n := 64 * _) (by omega) (by omega), wrap64_id (n := b2) (by omega) (by omega), wrap64_id (n := _ + b2) (by omega) (by omega), wrap64_id (n := _ - 128) (by omega) (by omega)]; rfl))
    have e := l01Rune_round hl (v := b0 - 240) h0 (j := 1) (by omega) (by omega) (show i + 4 ≤ (l.length : Int) by omega) (e.congr (fun k => by rw [hb1, wrap64_id (n := 64 * _) (by omega) (by omega), wrap64_id (n := b1) (by omega) (by omega), wrap64_id (n := _ + b1) (by omega) (by omega), wrap64_id (n := _ - 128) (by omega) (by omega)]; rfl))
    rw [seg4 h0 (by omega), hb0, hb1, hb2, hb3] at e
    refine ⟨_, (long 4 _ _ (by omega) (by omega) (by omega) e).eq (Prod.ext rfl ?_)⟩
    rw [rsAt, hb0, hb1, hb2, hb3, ← num4 _ b0 b1 b2 b3 (by omega) (by omega) (by omega) B1 B2 B3]
    split <;> rfl
  by_cases c3 : b0 ≥ 224
  · refine go 3 (wrap64 (b0 - 224)) (by omega) ?_ (fun k => by rw [hd, if_neg c4, if_pos c3])
    rw [wrap64_id (n := b0 - 224) (by omega) (by omega)]
    by_cases hs : (l.length : Int) - i < 3
    · refine ⟨-1, (short 3 _ (by omega) (by omega) hs).eq ?_⟩
      rw [rsAt, hb0, hb1, hb2, hb3, rsz_short3 _ _ _ _ _ (by omega) (by omega) (by omega)]
    have e := l01Rune_end hB hl (v := 64 * (64 * (b0 - 224) + b1 - 128) + b2 - 128) h0 (by omega) (show i + 3 ≤ (l.length : Int) by omega)
    have e := l01Rune_round hl (v := 64 * (b0 - 224) + b1 - 128) h0 (j := 2) (by omega) (by omega) (show i + 3 ≤ (l.length : Int) by omega) (e.congr (fun k => by rw [hb2, wrap64_id (n := 64 * _) (by omega) (by omega), wrap64_id (n := b2) (by omega) (by omega), wrap64_id (n := _ + b2) (by omega) (by omega), wrap64_id (n := _ - 128) (by omega) (by omega)]; rfl))
    have e := l01Rune_round hl (v := b0 - 224) h0 (j := 1) (by omega) (by omega) (show i + 3 ≤ (l.length : Int) by omega) (e.congr (fun k => by rw [hb1, wrap64_id (n := 64 * _) (by omega) (by omega), wrap64_id (n := b1) (by omega) (by omega), wrap64_id (n := _ + b1) (by omega) (by omega), wrap64_id (n := _ - 128) (by omega) (by omega)]; rfl))
    rw [seg3 h0 (by omega), hb0, hb1, hb2] at e
    refine ⟨_, (long 3 _ _ (by omega) (by omega) (by omega) e).eq (Prod.ext rfl ?_)⟩
    rw [rsAt, hb0, hb1, hb2, hb3, ← num3 _ b0 b1 b2 b3 (by omega) (by omega) (by omega) B1 B2 B3]
    split <;> rfl
  by_cases c2 : b0 ≥ 192
  · refine go 2 (wrap64 (b0 - 192)) (by omega) ?_ (fun k => by rw [hd, if_neg c4, if_neg c3, if_pos c2])
    rw [wrap64_id (n := b0 - 192) (by omega) (by omega)]
    by_cases hs : (l.length : Int) - i < 2
    · refine ⟨-1, (short 2 _ (by omega) (by omega) hs).eq ?_⟩
      rw [rsAt, hb0, hb1, hb2, hb3, rsz_short2 _ _ _ _ _ (by omega) (by omega) (by omega)]
    have e := l01Rune_end hB hl (v := 64 * (b0 - 192) + b1 - 128) h0 (by omega) (show i + 2 ≤ (l.length : Int) by omega)
    have e := l01Rune_round hl (v := b0 - 192) h0 (j := 1) (by omega) (by omega) (show i + 2 ≤ (l.length : Int) by omega) (e.congr (fun k => by rw [hb1, wrap64_id (n := 64 * _) (by omega) (by omega), wrap64_id (n := b1) (by omega) (by omega), wrap64_id (n := _ + b1) (by omega) (by omega), wrap64_id (n := _ - 128) (by omega) (by omega)]; rfl))
    rw [seg2 h0 (by omega), hb0, hb1] at e
    refine ⟨_, (long 2 _ _ (by omega) (by omega) (by omega) e).eq (Prod.ext rfl ?_)⟩
    rw [rsAt, hb0, hb1, hb2, hb3, ← num2 _ b0 b1 b2 b3 (by omega) (by omega) (by omega) B1 B2 B3]
    split <;> rfl
  · refine go 1 b0 (by omega) ?_ (fun k => by rw [hd, if_neg c4, if_neg c3, if_neg c2])
    have e := l01Rune_end hB hl (v := b0) h0 (by omega) (show i + 1 ≤ (l.length : Int) by omega)
    rw [seg1 h0 (by omega), hb0] at e
    refine ⟨_, (long 1 _ _ (by omega) (by omega) (by omega) e).eq (Prod.ext rfl ?_)⟩
    rw [rsAt, hb0, hb1, hb2, hb3]
    by_cases c7 : b0 < 128
    · have e7 : rbytes b0 = [b0] := by unfold rbytes; rw [if_neg (by omega), if_pos c7]
      rw [if_pos e7]; unfold rsz; rw [if_neg hn, if_pos c7]
    · have e7 : ¬ rbytes b0 = [b0] := by unfold rbytes; rw [if_neg (by omega), if_neg c7, if_pos (by omega)]; simp
      rw [if_neg e7]; unfold rsz; rw [if_neg hn, if_neg c7, if_pos (by omega)]
theorem RuneSize_ev {l : List Int} (hB : B l) (hl : (l.length : Int) ≤ 1000000000000) {i : Int} (h0 : 0 ≤ i) : Ev (fun k => spec_RuneSize.f k l i) (rsAt l i) := by
  obtain ⟨v, hv⟩ := l01Rune_size hB hl h0
  exact Ev.bind hv (Ev.pure _)
theorem Ev.ite {α : Type} {c : Prop} [Decidable c] {f g : Nat → Option α} {v : α} (ht : c → Ev f v) (hf : ¬ c → Ev g v) : Ev (fun k => if c then f k else g k) v := by
  by_cases h : c
  · simp only [if_pos h]; exact ht h
  · simp only [if_neg h]; exact hf h
theorem rsz_le {n b0 b1 b2 b3 : Int} (hm : rsz n b0 b1 b2 b3 ≠ 0) : 1 ≤ rsz n b0 b1 b2 b3 ∧ rsz n b0 b1 b2 b3 ≤ 4 ∧ rsz n b0 b1 b2 b3 ≤ n := by
  revert hm
  unfold rsz
  repeat' split
  all_goals omega
theorem rsz_ge (n b0 b1 b2 b3 : Int) : 0 ≤ rsz n b0 b1 b2 b3 ∧ rsz n b0 b1 b2 b3 ≤ 4 := by
  by_cases c : rsz n b0 b1 b2 b3 = 0
  · omega
  · have := rsz_le c; omega
theorem rsz_ext {n n' b0 b1 b2 b3 c0 c1 c2 c3 m : Int} (h : rsz n b0 b1 b2 b3 = m) (hm : m ≠ 0) (hn : m ≤ n') (e0 : c0 = b0) (e1 : 2 ≤ m → c1 = b1) (e2 : 3 ≤ m → c2 = b2) (e3 : 4 ≤ m → c3 = b3) : rsz n' c0 c1 c2 c3 = m := by
  subst e0
  unfold rsz at h
  repeat' split at h
  all_goals first | omega | skip
  all_goals unfold rsz
  all_goals (first | rw [e1 (by omega)] | skip)
  all_goals (first | rw [e2 (by omega)] | skip)
  all_goals (first | rw [e3 (by omega)] | skip)
  all_goals simp_all
  all_goals omega
theorem rd_drop {l : List Int} {i j : Int} (h0 : 0 ≤ i) (h1 : 0 ≤ j) : rd (l.drop i.toNat) j = rd l (i + j) := by
  unfold rd
  rw [List.getD_eq_getElem?_getD, List.getD_eq_getElem?_getD, List.getElem?_drop, show (i + j).toNat = i.toNat + j.toNat by omega]
theorem rsAt_drop {l : List Int} {i : Int} (h0 : 0 ≤ i) (h1 : i ≤ (l.length : Int)) : rsAt l i = rsAt (l.drop i.toNat) 0 := by
  unfold rsAt
  rw [len_drop h0 h1, rd_drop h0 (by omega), rd_drop h0 (by omega), rd_drop h0 (by omega), rd_drop h0 (by omega)]
  simp
def rs (l : List Int) : Nat := (rsAt l 0).toNat
theorem rs_eq (l : List Int) : rsAt l 0 = (rs l : Int) := by
  have := rsz_ge ((l.length : Int) - 0) (rd l 0) (rd l (0 + 1)) (rd l (0 + 2)) (rd l (0 + 3))
  unfold rs rsAt
  omega
theorem rs_le (l : List Int) : rs l ≤ l.length ∧ rs l ≤ 4 := by
  by_cases c : rsAt l 0 = 0
  · unfold rs; omega
  · have := rsz_le c
    unfold rs
    unfold rsAt at *
    omega
theorem rs_ext {l l' : List Int} (h : rs l ≠ 0) (hn : rs l ≤ l'.length) (e : l'.take (rs l) = l.take (rs l)) : rs l' = rs l := by
  have h1 : rsAt l 0 ≠ 0 := by have := rs_eq l; omega
  have hle := rs_le l
  have hrd : ∀ i : Nat, i < rs l → rd l' i = rd l i := fun i hi => by
    unfold rd
    have := congrArg (fun z : List Int => z[i]?) e
    simp only [List.getElem?_take, if_pos hi] at this
    rw [List.getD_eq_getElem?_getD, List.getD_eq_getElem?_getD, Int.toNat_natCast, this]
  have key : rsAt l' 0 = rsAt l 0 := by
    have he := rs_eq l
    refine rsz_ext (m := rsAt l 0) (n := (l.length : Int) - 0) rfl h1 (by omega) (hrd 0 (by omega)) (fun c => hrd 1 (by omega)) (fun c => hrd 2 (by omega)) (fun c => hrd 3 (by omega))
  unfold rs
  rw [key]
inductive Utf : List Int → Prop
  | nil : Utf []
  | cons (l : List Int) : rs l ≠ 0 → Utf (l.drop (rs l)) → Utf l
theorem Utf.inv {l : List Int} (h : Utf l) (hne : l ≠ []) : rs l ≠ 0 ∧ Utf (l.drop (rs l)) := by
  cases h with
  | nil => exact absurd rfl hne
  | cons _ h1 h2 => exact ⟨h1, h2⟩
theorem rs_nil : rs [] = 0 := by decide
theorem rs_app {a b : List Int} (h : rs a ≠ 0) : rs (a ++ b) = rs a := by
  have := rs_le a
  refine rs_ext h (by rw [List.length_append]; omega) ?_
  rw [List.take_append_of_le_length (by omega)]
theorem Utf.app {a b : List Int} (ha : Utf a) (hb : Utf b) : Utf (a ++ b) := by
  induction ha with
  | nil => exact hb
  | cons l h1 h2 ih =>
    have := rs_le l
    refine .cons _ (by rw [rs_app h1]; exact h1) ?_
    rw [rs_app h1, List.drop_append_of_le_length (by omega)]
    exact ih
theorem Utf.cancel {a b : List Int} (ha : Utf a) (h : Utf (a ++ b)) : Utf b := by
  induction ha with
  | nil => exact h
  | cons l h1 h2 ih =>
    have := rs_le l
    have h3 := (h.inv (by intro e; rw [List.append_eq_nil_iff] at e; rw [e.1] at h1; exact h1 rs_nil)).2
    rw [rs_app h1, List.drop_append_of_le_length (by omega)] at h3
    exact ih h3
theorem Utf.head {u v s t : List Int} (hu : Utf u) (hv : Utf v) (e : u ++ s = v ++ t) (hl : u.length ≤ v.length) : ∃ x, v = u ++ x ∧ Utf x := by
  have : v = u ++ v.drop u.length := by
    have h1 : (v ++ t).take u.length = u := by rw [← e]; simp
    rw [List.take_append_of_le_length hl] at h1
    conv => lhs; rw [← List.take_append_drop u.length v, h1]
  exact ⟨_, this, hu.cancel (this ▸ hv)⟩
def Bd (l : List Int) (p : Int) : Prop := ∃ a b, l = a ++ b ∧ Utf a ∧ Utf b ∧ p = (a.length : Int)
theorem Bd.utf {l : List Int} {p : Int} (h : Bd l p) : Utf l := by obtain ⟨a, b, rfl, ha, hb, _⟩ := h; exact ha.app hb
theorem Bd.range {l : List Int} {p : Int} (h : Bd l p) : 0 ≤ p ∧ p ≤ (l.length : Int) := by obtain ⟨a, b, rfl, ha, hb, rfl⟩ := h; simp; omega
theorem Bd.take {l : List Int} {p : Int} (h : Bd l p) : Utf (l.take p.toNat) ∧ Utf (l.drop p.toNat) := by
  obtain ⟨a, b, rfl, ha, hb, rfl⟩ := h
  simp only [Int.toNat_natCast, List.take_left', List.drop_left']
  exact ⟨ha, hb⟩
theorem Bd.of {l : List Int} {p : Int} (h0 : 0 ≤ p) (h1 : p ≤ (l.length : Int)) (ha : Utf (l.take p.toNat)) (hb : Utf (l.drop p.toNat)) : Bd l p :=
  ⟨_, _, (List.take_append_drop p.toNat l).symm, ha, hb, by rw [List.length_take]; omega⟩
theorem Bd.zero {l : List Int} (h : Utf l) : Bd l 0 := ⟨[], l, rfl, .nil, h, rfl⟩
theorem Bd.end {l : List Int} (h : Utf l) : Bd l (l.length : Int) := ⟨l, [], by simp, h, .nil, rfl⟩
theorem Bd.step {s : List Int} (hne : s ≠ []) (hs : Utf s) (x : Int) : Bd s x ↔ x = 0 ∨ Bd (s.drop (rs s)) (x - (rs s : Int)) := by
  have ⟨h1, h2⟩ := hs.inv hne
  have hle := rs_le s
  constructor
  · rintro ⟨a, b, e, ha, hb, rfl⟩
    by_cases c : a = []
    · left; simp [c]
    right
    subst e
    have ⟨a1, a2⟩ := ha.inv c
    have := rs_le a
    refine ⟨a.drop (rs a), b, ?_, a2, hb, ?_⟩
    · rw [rs_app a1, List.drop_append_of_le_length (by omega)]
    · rw [rs_app a1, List.length_drop]; omega
  · rintro (rfl | ⟨a, b, e, ha, hb, hx⟩)
    · exact Bd.zero hs
    · refine ⟨s.take (rs s) ++ a, b, ?_, ?_, hb, ?_⟩
      · rw [List.append_assoc, ← e, List.take_append_drop]
      · have e2 : rs (s.take (rs s) ++ a) = rs s := rs_ext h1 (by simp; omega) (by rw [List.take_append_of_le_length (by simp; omega), List.take_take, Nat.min_self])
        refine .cons _ (by rw [e2]; exact h1) ?_
        rw [e2, List.drop_append_of_le_length (by simp; omega), List.drop_take]
        simpa using ha
      · rw [List.length_append, List.length_take]; omega
theorem l01Cuts_yes {l : List Int} (hB : B l) (hl : (l.length : Int) ≤ 1000000) : ∀ (n : Nat) (acc : List Int) (p : Int), 0 ≤ p → p ≤ (l.length : Int) → (l.length : Int) - p ≤ n → (acc.length : Int) ≤ p → Utf (l.drop p.toNat) →
    ∃ C, Ev (fun k => spec_l01Cuts.l0 k l acc p) (acc ++ C) ∧ C ≠ [] ∧ C.length ≤ n + 1 ∧ ∀ x, x ∈ C ↔ Bd (l.drop p.toNat) (x - p) := by
  intro n
  induction n with
  | zero =>
    intro acc p h0 h1 hn ha hu
    have hp : p = (l.length : Int) := by omega
    refine ⟨[p], Ev.succ ?_, by simp, by simp, fun x => ?_⟩
    · simp only [spec_l01Cuts.l0, if_neg (show ¬ p < (l.length : Int) by omega), if_pos (show acc.length < 17592186044416 by omega)]
      exact Ev.pure _
    · rw [List.drop_eq_nil_of_le (by omega)]
      constructor
      · intro hx
        simp at hx
        exact ⟨[], [], rfl, .nil, .nil, by simp; omega⟩
      · rintro ⟨a, b, e, _, _, hx⟩
        rw [eq_comm, List.append_eq_nil_iff] at e
        simp [e.1] at hx
        simp; omega
  | succ n ih =>
    intro acc p h0 h1 hn ha hu
    by_cases hp : p = (l.length : Int)
    · exact (by
        refine ⟨[p], Ev.succ ?_, by simp, by simp, fun x => ?_⟩
        · simp only [spec_l01Cuts.l0, if_neg (show ¬ p < (l.length : Int) by omega), if_pos (show acc.length < 17592186044416 by omega)]
          exact Ev.pure _
        · rw [List.drop_eq_nil_of_le (by omega)]
          constructor
          · intro hx
            simp at hx
            exact ⟨[], [], rfl, .nil, .nil, by simp; omega⟩
          · rintro ⟨a, b, e, _, _, hx⟩
            rw [eq_comm, List.append_eq_nil_iff] at e
            simp [e.1] at hx
            simp; omega)
    have hne : l.drop p.toNat ≠ [] := by intro e; rw [List.drop_eq_nil_iff] at e; omega
    have ⟨r1, r2⟩ := hu.inv hne
    have er : rsAt l p = (rs (l.drop p.toNat) : Int) := by rw [rsAt_drop h0 h1, rs_eq]
    have hle := rs_le (l.drop p.toNat)
    rw [List.length_drop] at hle
    have hd : (l.drop p.toNat).drop (rs (l.drop p.toNat)) = l.drop (p + (rs (l.drop p.toNat) : Int)).toNat := by rw [List.drop_drop, show (p + (rs (l.drop p.toNat) : Int)).toNat = p.toNat + rs (l.drop p.toNat) by omega]
    obtain ⟨C, hC, hCne, hCl, hCm⟩ := ih (acc ++ [p]) (p + (rs (l.drop p.toNat) : Int)) (by omega) (by omega) (by omega) (by rw [List.length_append]; simp; omega) (hd ▸ r2)
    refine ⟨p :: C, Ev.succ ?_, by simp, by simp; omega, fun x => ?_⟩
    · simp only [spec_l01Cuts.l0, if_pos (show p < (l.length : Int) by omega)]
      refine Ev.bind (RuneSize_ev hB (by omega) h0) ?_
      rw [er, wrap64_id (n := p + _) (by omega) (by omega)]
      simp only [if_neg (show ¬ (rs (l.drop p.toNat) : Int) = 0 by omega), if_pos (show acc.length < 17592186044416 by omega)]
      exact hC.eq (by simp)
    · rw [Bd.step hne hu, hd, List.mem_cons, hCm, show x - (p + (rs (l.drop p.toNat) : Int)) = x - p - (rs (l.drop p.toNat) : Int) by omega]
      constructor
      · rintro (h | h)
        · exact .inl (by omega)
        · exact .inr h
      · rintro (h | h)
        · exact .inl (by omega)
        · exact .inr h
theorem l01Cuts_no {l : List Int} (hB : B l) (hl : (l.length : Int) ≤ 1000000) : ∀ (n : Nat) (acc : List Int) (p : Int), 0 ≤ p → p ≤ (l.length : Int) → (l.length : Int) - p ≤ n → (acc.length : Int) ≤ p → ¬ Utf (l.drop p.toNat) →
    Ev (fun k => spec_l01Cuts.l0 k l acc p) [] := by
  intro n
  induction n with
  | zero =>
    intro acc p h0 h1 hn ha hu
    rw [List.drop_eq_nil_of_le (by omega)] at hu
    exact absurd .nil hu
  | succ n ih =>
    intro acc p h0 h1 hn ha hu
    by_cases hp : p = (l.length : Int)
    · rw [List.drop_eq_nil_of_le (by omega)] at hu
      exact absurd .nil hu
    have er : rsAt l p = (rs (l.drop p.toNat) : Int) := by rw [rsAt_drop h0 h1, rs_eq]
    have hle := rs_le (l.drop p.toNat)
    rw [List.length_drop] at hle
    have hd : (l.drop p.toNat).drop (rs (l.drop p.toNat)) = l.drop (p + (rs (l.drop p.toNat) : Int)).toNat := by rw [List.drop_drop, show (p + (rs (l.drop p.toNat) : Int)).toNat = p.toNat + rs (l.drop p.toNat) by omega]
    apply Ev.succ
    simp only [spec_l01Cuts.l0, if_pos (show p < (l.length : Int) by omega)]
    refine Ev.bind (RuneSize_ev hB (by omega) h0) ?_
    rw [er, wrap64_id (n := p + _) (by omega) (by omega)]
    by_cases c : rs (l.drop p.toNat) = 0
    · simp only [c, Int.natCast_zero, if_true]
      exact Ev.pure _
    · simp only [if_neg (show ¬ (rs (l.drop p.toNat) : Int) = 0 by omega), if_pos (show acc.length < 17592186044416 by omega)]
      refine ih _ _ (by omega) (by omega) (by omega) (by rw [List.length_append]; simp; omega) (fun h => hu (.cons _ c (hd ▸ h)))
open Classical in
theorem l01Cuts_ev {l : List Int} (hB : B l) : ∃ C, Ev (fun k => spec_l01Cuts.f k l) C ∧ (C ≠ [] ↔ (l.length : Int) ≤ 400 ∧ Utf l) ∧ ((l.length : Int) ≤ 400 → ∀ x, x ∈ C ↔ Bd l x) ∧ (¬ (l.length : Int) ≤ 400 → C = []) ∧ C.length ≤ 401 := by
  by_cases hl : (l.length : Int) > 400
  · refine ⟨[], ?_, ?_, fun h => by omega, fun _ => rfl, by simp⟩
    · simp only [spec_l01Cuts.f, if_pos hl]; exact Ev.pure _
    · constructor
      · intro h; exact absurd rfl h
      · intro h; omega
  have hf : ∀ k, spec_l01Cuts.f k l = spec_l01Cuts.l0 k l [] 0 := fun k => by simp only [spec_l01Cuts.f, if_neg hl]
  by_cases hu : Utf l
  · obtain ⟨C, h1, h2, h4, h3⟩ := l01Cuts_yes hB (by omega) l.length [] 0 (by omega) (by omega) (by omega) (by simp) (by simpa using hu)
    refine ⟨C, h1.congr hf, ⟨fun _ => ⟨by omega, hu⟩, fun _ => h2⟩, fun _ x => by simpa using h3 x, fun h => by omega, by omega⟩
  · refine ⟨[], (l01Cuts_no hB (by omega) l.length [] 0 (by omega) (by omega) (by omega) (by simp) (by simpa using hu)).congr hf, ⟨fun h => absurd rfl h, fun h => absurd h.2 hu⟩, fun _ x => ?_, fun _ => rfl, by simp⟩
    constructor
    · intro h; cases h
    · intro h; exact absurd h.utf hu
open Classical in
theorem TextOk_ev {l : List Int} (hB : B l) : Ev (fun k => spec_TextOk.f k l) (decide ((l.length : Int) ≤ 400 ∧ Utf l)) := by
  obtain ⟨C, h1, h2, _⟩ := l01Cuts_ev hB
  refine Ev.bind h1 ((Ev.pure _).eq ?_)
  apply decide_eq_decide.2
  rw [← h2]
  cases C <;> simp
theorem RunesTo_ev (C : List Int) (hl : (C.length : Int) ≤ 1000000000) (x : Int) : ∀ (n : Nat) (i : Int), 0 ≤ i → (C.length : Int) - i ≤ n → ∃ r, Ev (fun k => spec_RunesTo.l0 k x C i) r ∧ (0 ≤ r ↔ x ∈ C.drop i.toNat) := by
  intro n
  induction n with
  | zero =>
    intro i h0 hn
    refine ⟨-1, Ev.succ ?_, ?_⟩
    · simp only [spec_RunesTo.l0, if_neg (show ¬ i < (C.length : Int) by omega)]; exact Ev.pure _
    · rw [List.drop_eq_nil_of_le (by omega)]; simp
  | succ n ih =>
    intro i h0 hn
    by_cases c : i < (C.length : Int)
    · obtain ⟨r, hr, hm⟩ := ih (i + 1) (by omega) (by omega)
      by_cases e : rd C i = x
      · refine ⟨i, Ev.succ ?_, ?_⟩
        · simp only [spec_RunesTo.l0, if_pos c, if_pos h0, if_pos e]; exact Ev.pure _
        · rw [drop_cons h0 c, e]; simp [h0]
      · refine ⟨r, Ev.succ ?_, ?_⟩
        · simp only [spec_RunesTo.l0, if_pos c, if_pos h0, if_neg e, wrap64_id (n := i + 1) (by omega) (by omega)]; exact hr
        · rw [drop_cons h0 c, hm, List.mem_cons]
          constructor
          · exact .inr
          · rintro (h | h)
            · exact absurd h.symm e
            · exact h
    · refine ⟨-1, Ev.succ ?_, ?_⟩
      · simp only [spec_RunesTo.l0, if_neg c]; exact Ev.pure _
      · rw [List.drop_eq_nil_of_le (by omega)]; simp
open Classical in
theorem CutOk_ev {l : List Int} (hB : B l) (hl : (l.length : Int) ≤ 400) (x : Int) : Ev (fun k => spec_CutOk.f k l x) (decide (Bd l x)) := by
  obtain ⟨C, h1, h2, h3, _, h5⟩ := l01Cuts_ev hB
  obtain ⟨r, hr, hm⟩ := RunesTo_ev C (by omega) x C.length 0 (by omega) (by omega)
  refine Ev.bind (Ev.bind h1 hr) ((Ev.pure _).eq ?_)
  apply decide_eq_decide.2
  rw [ge_iff_le, hm]
  simpa using h3 hl x
theorem rd_gtab0 (j : Int) (h0 : 0 ≤ j) (h1 : j < 256) : rd gtab0 j = ((Lib.firstT j.toNat : Nat) : Int) := by
  unfold rd gtab0
  rw [List.getD_eq_getElem?_getD, List.getElem?_map, List.getElem?_range (show j.toNat < 256 by omega)]
  rfl
set_option maxRecDepth 100000 in
theorem and7 : ∀ X : Fin 256, bits .and .u8 ((X.val : Nat) : Int) 7 = ((X.val % 8 : Nat) : Int) := by decide
theorem firstT_lt (b : Nat) : Lib.firstT b < 256 := by unfold Lib.firstT; repeat' split
                                                       all_goals omega
def tsz (n b1 b2 b3 sz lo hi : Int) : Int :=
  if sz = 2 then (if n < 2 ∨ b1 < lo ∨ hi < b1 then 0 else 2)
  else if sz = 3 then (if n < 3 ∨ b1 < lo ∨ hi < b1 ∨ b2 < 128 ∨ 191 < b2 then 0 else 3)
  else if sz = 4 then (if n < 4 ∨ b1 < lo ∨ hi < b1 ∨ b2 < 128 ∨ 191 < b2 ∨ b3 < 128 ∨ 191 < b3 then 0 else 4)
  else 0
set_option maxHeartbeats 4000000 in
theorem tab_rsz (n b1 b2 b3 : Int) (b : Nat) (hn : 1 ≤ n) (h0 : 128 ≤ b) (h1 : b < 256) :
    rsz n b b1 b2 b3 = tsz n b1 b2 b3 ((Lib.firstT b % 8 : Nat) : Int) ((Lib.accLo (Lib.firstT b / 16) : Nat) : Int) ((Lib.accHi (Lib.firstT b / 16) : Nat) : Int) := by
  have key : ∀ X : Nat, Lib.firstT b = X → ∀ lo hi sz : Nat, Lib.accLo (X / 16) = lo → Lib.accHi (X / 16) = hi → X % 8 = sz → rsz n b b1 b2 b3 = tsz n b1 b2 b3 (sz : Int) (lo : Int) (hi : Int) → rsz n b b1 b2 b3 = tsz n b1 b2 b3 ((Lib.firstT b % 8 : Nat) : Int) ((Lib.accLo (Lib.firstT b / 16) : Nat) : Int) ((Lib.accHi (Lib.firstT b / 16) : Nat) : Int) := by
    intro X hX lo hi sz e1 e2 e3 h
    rw [hX, e1, e2, e3]; exact h
  have hf : Lib.firstT b = if b < 194 then 241 else if b < 224 then 2 else if b = 224 then 19 else if b < 237 then 3 else if b = 237 then 35 else if b < 240 then 3
      else if b = 240 then 52 else if b < 244 then 4 else if b = 244 then 68 else 241 := by unfold Lib.firstT; rw [if_neg (by omega)]
  have nn : ¬ n ≤ 0 := by omega
  by_cases c0 : b < 194
  · refine key 241 (by rw [hf, if_pos c0]) _ _ _ rfl rfl rfl ?_
    simp [tsz, rsz, nn]; omega
  by_cases c1 : b < 224
  · refine key 2 (by rw [hf, if_neg c0, if_pos c1]) 128 191 2 rfl rfl rfl ?_
    unfold tsz rsz; repeat' split
    all_goals omega
  by_cases c2 : b = 224
  · subst c2
    refine key 19 (by decide) 160 191 3 rfl rfl rfl ?_
    unfold tsz rsz; simp; repeat' split
    all_goals omega
  by_cases c3 : b < 237
  · refine key 3 (by rw [hf, if_neg c0, if_neg c1, if_neg c2, if_pos c3]) 128 191 3 rfl rfl rfl ?_
    unfold tsz rsz; rw [if_neg (show ¬ (b : Int) = 224 by omega), if_neg (show ¬ (b : Int) = 237 by omega)]; repeat' split
    all_goals omega
  by_cases c4 : b = 237
  · subst c4
    refine key 35 (by decide) 128 159 3 rfl rfl rfl ?_
    unfold tsz rsz; simp; repeat' split
    all_goals omega
  by_cases c5 : b < 240
  · refine key 3 (by rw [hf, if_neg c0, if_neg c1, if_neg c2, if_neg c3, if_neg c4, if_pos c5]) 128 191 3 rfl rfl rfl ?_
    unfold tsz rsz; rw [if_neg (show ¬ (b : Int) = 224 by omega), if_neg (show ¬ (b : Int) = 237 by omega)]; repeat' split
    all_goals omega
  by_cases c6 : b = 240
  · subst c6
    refine key 52 (by decide) 144 191 4 rfl rfl rfl ?_
    unfold tsz rsz; simp; repeat' split
    all_goals omega
  by_cases c7 : b < 244
  · refine key 4 (by rw [hf, if_neg c0, if_neg c1, if_neg c2, if_neg c3, if_neg c4, if_neg c5, if_neg c6, if_pos c7]) 128 191 4 rfl rfl rfl ?_
    unfold tsz rsz; rw [if_neg (show ¬ (b : Int) = 240 by omega), if_neg (show ¬ (b : Int) = 244 by omega)]; repeat' split
    all_goals omega
  by_cases c8 : b = 244
  · subst c8
    refine key 68 (by decide) 128 143 4 rfl rfl rfl ?_
    unfold tsz rsz; simp; repeat' split
    all_goals omega
  · refine key 241 (by rw [hf, if_neg c0, if_neg c1, if_neg c2, if_neg c3, if_neg c4, if_neg c5, if_neg c6, if_neg c7, if_neg c8]) _ _ _ rfl rfl rfl ?_
    simp [tsz, rsz, nn]; omega
def Asc (x : List Int) (n : Nat) : Prop := n ≤ x.length ∧ ∀ b ∈ x.take n, b < 128
theorem Utf_asc {x : List Int} (h : Utf x ↔ Utf x) (hB : B x) (hn : 1 ≤ x.length) (hb : rd x 0 < 128) : Utf x ↔ Utf (x.drop 1) := by
  have e : rs x = 1 := by
    unfold rs rsAt rsz
    rw [if_neg (by omega), if_pos hb]; rfl
  constructor
  · intro hu
    have := (hu.inv (by intro e; simp [e] at hn)).2
    rwa [e] at this
  · intro hu
    exact .cons _ (by omega) (by rwa [e])
theorem Utf_skip : ∀ (n : Nat) {x : List Int}, B x → Asc x n → (Utf x ↔ Utf (x.drop n))
  | 0, x, _, _ => by simp
  | n + 1, [], _, h => by have := h.1; simp at this
  | n + 1, b :: t, hB, h => by
    have hb : b < 128 := h.2 b (by simp)
    rw [Utf_asc Iff.rfl hB (by simp) (by simpa [rd] using hb)]
    simp only [List.drop_succ_cons, List.drop_zero]
    exact Utf_skip n hB.cons.2 ⟨by have := h.1; simp at this; omega, fun c hc => h.2 c (by simp [hc])⟩
theorem Asc.add {x : List Int} {a b : Nat} (ha : Asc x a) (hb : Asc (x.drop a) b) : Asc x (a + b) := by
  refine ⟨by have := hb.1; rw [List.length_drop] at this; have := ha.1; omega, ?_⟩
  intro c hc
  rw [List.take_add] at hc
  rcases List.mem_append.1 hc with h | h
  · exact ha.2 c h
  · exact hb.2 c h
set_option maxRecDepth 100000 in
theorem mask0 : ∀ X : Fin 256, (X.val) &&& 9259542123273814144 = 0 → X.val < 128 := by decide +kernel
set_option maxRecDepth 100000 in
theorem mask1 : ∀ X : Fin 256, (X.val * 256) &&& 9259542123273814144 = 0 → X.val < 128 := by decide +kernel
set_option maxRecDepth 100000 in
theorem mask2 : ∀ X : Fin 256, (X.val * 65536) &&& 9259542123273814144 = 0 → X.val < 128 := by decide +kernel
set_option maxRecDepth 100000 in
theorem mask3 : ∀ X : Fin 256, (X.val * 16777216) &&& 9259542123273814144 = 0 → X.val < 128 := by decide +kernel
set_option maxRecDepth 100000 in
theorem mask4 : ∀ X : Fin 256, (X.val * 4294967296) &&& 9259542123273814144 = 0 → X.val < 128 := by decide +kernel
set_option maxRecDepth 100000 in
theorem mask5 : ∀ X : Fin 256, (X.val * 1099511627776) &&& 9259542123273814144 = 0 → X.val < 128 := by decide +kernel
set_option maxRecDepth 100000 in
theorem mask6 : ∀ X : Fin 256, (X.val * 281474976710656) &&& 9259542123273814144 = 0 → X.val < 128 := by decide +kernel
set_option maxRecDepth 100000 in
theorem mask7 : ∀ X : Fin 256, (X.val * 72057594037927936) &&& 9259542123273814144 = 0 → X.val < 128 := by decide +kernel
theorem wrapN {n : Nat} (h : n < 18446744073709551616) : IntKind.u64.wrap (n : Int) = (n : Int) := by
  simp [IntKind.wrap, IntKind.bits, IntKind.signed]
  omega
theorem wrapM {n m : Nat} {c : Int} (hc : c = (m : Int)) (h : n * m < 18446744073709551616) : IntKind.u64.wrap ((n : Int) * c) = ((n * m : Nat) : Int) := by
  have e : ((n : Int) * c) = ((n * m : Nat) : Int) := by rw [hc]; simp
  rw [e]
  exact wrapN h
theorem or64 {a b : Nat} (ha : a < 18446744073709551616) (hb : b < 18446744073709551616) : a ||| b < 18446744073709551616 := Nat.or_lt_two_pow (n := 64) ha hb
theorem word_of (n0 n1 n2 n3 n4 n5 n6 n7 : Nat) (t : List Int) (h0 : n0 < 256) (h1 : n1 < 256) (h2 : n2 < 256) (h3 : n3 < 256) (h4 : n4 < 256) (h5 : n5 < 256) (h6 : n6 < 256) (h7 : n7 < 256) :
    utf8_word_byte.f ((n0 : Int) :: n1 :: n2 :: n3 :: n4 :: n5 :: n6 :: n7 :: t) = some ((n0 ||| n1 * 256 ||| n2 * 65536 ||| n3 * 16777216 ||| n4 * 4294967296 ||| n5 * 1099511627776 ||| n6 * 281474976710656 ||| n7 * 72057594037927936 : Nat) : Int) := by
  have L : ∀ i : Int, i < 8 → i < ((((n0 : Int) :: n1 :: n2 :: n3 :: n4 :: n5 :: n6 :: n7 :: t).length : Nat) : Int) := by intro i hi; simp; omega
  have b0 : n0 < 18446744073709551616 := by omega
  have b1 : n1 * 256 < 18446744073709551616 := Nat.lt_of_lt_of_le (Nat.mul_lt_mul_of_pos_right h1 (by decide)) (by decide)
  have b2 : n2 * 65536 < 18446744073709551616 := Nat.lt_of_lt_of_le (Nat.mul_lt_mul_of_pos_right h2 (by decide)) (by decide)
  have b3 : n3 * 16777216 < 18446744073709551616 := Nat.lt_of_lt_of_le (Nat.mul_lt_mul_of_pos_right h3 (by decide)) (by decide)
  have b4 : n4 * 4294967296 < 18446744073709551616 := Nat.lt_of_lt_of_le (Nat.mul_lt_mul_of_pos_right h4 (by decide)) (by decide)
  have b5 : n5 * 1099511627776 < 18446744073709551616 := Nat.lt_of_lt_of_le (Nat.mul_lt_mul_of_pos_right h5 (by decide)) (by decide)
  have b6 : n6 * 281474976710656 < 18446744073709551616 := Nat.lt_of_lt_of_le (Nat.mul_lt_mul_of_pos_right h6 (by decide)) (by decide)
  have b7 : n7 * 72057594037927936 < 18446744073709551616 := Nat.lt_of_lt_of_le (Nat.mul_lt_mul_of_pos_right h7 (by decide)) (by decide)
  unfold utf8_word_byte.f
  rw [if_pos (L 0 (by omega)), if_pos (L 1 (by omega)), if_pos (L 2 (by omega)), if_pos (L 3 (by omega)), if_pos (L 4 (by omega)), if_pos (L 5 (by omega)), if_pos (L 6 (by omega)), if_pos (L 7 (by omega))]
  have r0 : rd ((n0 : Int) :: n1 :: n2 :: n3 :: n4 :: n5 :: n6 :: n7 :: t) 0 = n0 := rfl
  have r1 : rd ((n0 : Int) :: n1 :: n2 :: n3 :: n4 :: n5 :: n6 :: n7 :: t) 1 = n1 := rfl
  have r2 : rd ((n0 : Int) :: n1 :: n2 :: n3 :: n4 :: n5 :: n6 :: n7 :: t) 2 = n2 := rfl
  have r3 : rd ((n0 : Int) :: n1 :: n2 :: n3 :: n4 :: n5 :: n6 :: n7 :: t) 3 = n3 := rfl
  have r4 : rd ((n0 : Int) :: n1 :: n2 :: n3 :: n4 :: n5 :: n6 :: n7 :: t) 4 = n4 := rfl
  have r5 : rd ((n0 : Int) :: n1 :: n2 :: n3 :: n4 :: n5 :: n6 :: n7 :: t) 5 = n5 := rfl
  have r6 : rd ((n0 : Int) :: n1 :: n2 :: n3 :: n4 :: n5 :: n6 :: n7 :: t) 6 = n6 := rfl
  have r7 : rd ((n0 : Int) :: n1 :: n2 :: n3 :: n4 :: n5 :: n6 :: n7 :: t) 7 = n7 := rfl
  rw [r0, r1, r2, r3, r4, r5, r6, r7]
  rw [wrapN (n := n0) (by omega), wrapN (n := n1) (by omega), wrapN (n := n2) (by omega), wrapN (n := n3) (by omega), wrapN (n := n4) (by omega), wrapN (n := n5) (by omega), wrapN (n := n6) (by omega), wrapN (n := n7) (by omega)]
  rw [wrapM (c := 256) (m := 256) rfl b1, wrapM (c := 65536) (m := 65536) rfl b2, wrapM (c := 16777216) (m := 16777216) rfl b3, wrapM (c := 4294967296) (m := 4294967296) rfl b4, wrapM (c := 1099511627776) (m := 1099511627776) rfl b5, wrapM (c := 281474976710656) (m := 281474976710656) rfl b6, wrapM (c := 72057594037927936) (m := 72057594037927936) rfl b7]
  have c1 := or64 b0 b1
  have c2 := or64 c1 b2
  have c3 := or64 c2 b3
  have c4 := or64 c3 b4
  have c5 := or64 c4 b5
  have c6 := or64 c5 b6
  rw [u64_or_nat _ _ b0 b1, u64_or_nat _ _ c1 b2, u64_or_nat _ _ c2 b3, u64_or_nat _ _ c3 b4, u64_or_nat _ _ c4 b5, u64_or_nat _ _ c5 b6, u64_or_nat _ _ c6 b7]
theorem word_ev {x : List Int} (hB : B x) (h8 : 8 ≤ x.length) : ∃ v : Nat, utf8_word_byte.f x = some (v : Int) ∧ v < 18446744073709551616 ∧ (v &&& 9259542123273814144 = 0 → Asc x 8) := by
  obtain ⟨x0, x1, x2, x3, x4, x5, x6, x7, t, rfl⟩ : ∃ x0 x1 x2 x3 x4 x5 x6 x7 t, x = x0 :: x1 :: x2 :: x3 :: x4 :: x5 :: x6 :: x7 :: t := by
    match x, h8 with
    | x0 :: x1 :: x2 :: x3 :: x4 :: x5 :: x6 :: x7 :: t, _ => exact ⟨_, _, _, _, _, _, _, _, _, rfl⟩
  have g0 := hB x0 (by simp)
  obtain ⟨n0, rfl⟩ := Int.eq_ofNat_of_zero_le g0.1
  have g1 := hB x1 (by simp)
  obtain ⟨n1, rfl⟩ := Int.eq_ofNat_of_zero_le g1.1
  have g2 := hB x2 (by simp)
  obtain ⟨n2, rfl⟩ := Int.eq_ofNat_of_zero_le g2.1
  have g3 := hB x3 (by simp)
  obtain ⟨n3, rfl⟩ := Int.eq_ofNat_of_zero_le g3.1
  have g4 := hB x4 (by simp)
  obtain ⟨n4, rfl⟩ := Int.eq_ofNat_of_zero_le g4.1
  have g5 := hB x5 (by simp)
  obtain ⟨n5, rfl⟩ := Int.eq_ofNat_of_zero_le g5.1
  have g6 := hB x6 (by simp)
  obtain ⟨n6, rfl⟩ := Int.eq_ofNat_of_zero_le g6.1
  have g7 := hB x7 (by simp)
  obtain ⟨n7, rfl⟩ := Int.eq_ofNat_of_zero_le g7.1
  refine ⟨_, word_of n0 n1 n2 n3 n4 n5 n6 n7 t (by omega) (by omega) (by omega) (by omega) (by omega) (by omega) (by omega) (by omega), ?_, ?_⟩
  · have bb : ∀ n m : Nat, n < 256 → 256 * m ≤ 18446744073709551616 → 0 < m → n * m < 18446744073709551616 := fun n m h1 h2 h3 => Nat.lt_of_lt_of_le (Nat.mul_lt_mul_of_pos_right h1 h3) h2
    exact or64 (or64 (or64 (or64 (or64 (or64 (or64 (Nat.lt_of_lt_of_le (show n0 < 256 by omega) (by decide)) (bb n1 _ (by omega) (by decide) (by decide))) (bb n2 _ (by omega) (by decide) (by decide))) (bb n3 _ (by omega) (by decide) (by decide))) (bb n4 _ (by omega) (by decide) (by decide))) (bb n5 _ (by omega) (by decide) (by decide))) (bb n6 _ (by omega) (by decide) (by decide))) (bb n7 _ (by omega) (by decide) (by decide))
  · intro h
    simp only [Lib.or_mask] at h
    obtain ⟨⟨⟨⟨⟨⟨⟨m0, m1⟩, m2⟩, m3⟩, m4⟩, m5⟩, m6⟩, m7⟩ := h
    have k0 := mask0 ⟨n0, by omega⟩ m0
    have k1 := mask1 ⟨n1, by omega⟩ m1
    have k2 := mask2 ⟨n2, by omega⟩ m2
    have k3 := mask3 ⟨n3, by omega⟩ m3
    have k4 := mask4 ⟨n4, by omega⟩ m4
    have k5 := mask5 ⟨n5, by omega⟩ m5
    have k6 := mask6 ⟨n6, by omega⟩ m6
    have k7 := mask7 ⟨n7, by omega⟩ m7
    refine ⟨by simp, fun c hc => ?_⟩
    simp at hc k0 k1 k2 k3 k4 k5 k6 k7
    omega
end Go.Proofs.YteapbiiffcchbaaDoor.V
namespace Go.Proofs.YteapbiiffcchbaaDoor.V
open Go.RowKit Go.Proofs.YteapbiiffcchbaaDoorW.PrintWords Go.Proofs.YteapbiiffcchbaaDoorW.PrintMore Go.Proofs.YteapbiiffcchbaaDoor.P Go.Proofs.YteapbiiffcchbaaDoor.G
set_option linter.unusedVariables false
set_option linter.unusedSimpArgs false
open Classical
def VL (x : List Int) : Prop := Ev (fun k => utf8_Valid.l0 k x) (decide (Utf x))
def VM (x : List Int) : Prop := Ev (fun k => utf8_Valid.l1 k x) (decide (Utf x))
theorem Utf_rs {x : List Int} (hne : x ≠ []) : Utf x ↔ rs x ≠ 0 ∧ Utf (x.drop (rs x)) := ⟨fun h => h.inv hne, fun h => .cons _ h.1 h.2⟩
theorem v5 {x : List Int} (hne : x ≠ []) (f : Bool) (ht : f = true → rs x = 0) (hf : f = false → rs x = 2 ∧ VL (x.drop 2)) : Ev (fun k => utf8_Valid.j5 k x f) (decide (Utf x)) := by
  apply Ev.succ
  cases f with
  | true =>
    simp only [utf8_Valid.j5, if_true]
    refine (Ev.pure _).eq ?_
    rw [eq_comm, decide_eq_false_iff_not, Utf_rs hne, ht rfl]; simp
  | false =>
    obtain ⟨h1, h2⟩ := hf rfl
    have := rs_le x
    simp only [utf8_Valid.j5, Bool.false_eq_true, if_false, if_pos (show 2 ≤ (x.length : Int) by omega)]
    refine Ev.eq h2 ?_
    apply decide_eq_decide.2
    rw [Utf_rs hne, h1]; simp
theorem v6 {x : List Int} (hne : x ≠ []) (f : Bool) (ht : f = true → rs x = 0) (hf : f = false → rs x = 3 ∧ VL (x.drop 3)) : Ev (fun k => utf8_Valid.j6 k x f) (decide (Utf x)) := by
  apply Ev.succ
  cases f with
  | true =>
    simp only [utf8_Valid.j6, if_true]
    refine (Ev.pure _).eq ?_
    rw [eq_comm, decide_eq_false_iff_not, Utf_rs hne, ht rfl]; simp
  | false =>
    obtain ⟨h1, h2⟩ := hf rfl
    have := rs_le x
    simp only [utf8_Valid.j6, Bool.false_eq_true, if_false, if_pos (show 3 ≤ (x.length : Int) by omega)]
    refine Ev.eq h2 ?_
    apply decide_eq_decide.2
    rw [Utf_rs hne, h1]; simp
theorem v7 {x : List Int} (hne : x ≠ []) (f : Bool) (ht : f = true → rs x = 0) (hf : f = false → rs x = 4 ∧ VL (x.drop 4)) : Ev (fun k => utf8_Valid.j7 k x f) (decide (Utf x)) := by
  apply Ev.succ
  cases f with
  | true =>
    simp only [utf8_Valid.j7, if_true]
    refine (Ev.pure _).eq ?_
    rw [eq_comm, decide_eq_false_iff_not, Utf_rs hne, ht rfl]; simp
  | false =>
    obtain ⟨h1, h2⟩ := hf rfl
    have := rs_le x
    simp only [utf8_Valid.j7, Bool.false_eq_true, if_false, if_pos (show 4 ≤ (x.length : Int) by omega)]
    refine Ev.eq h2 ?_
    apply decide_eq_decide.2
    rw [Utf_rs hne, h1]; simp
theorem skip_ev {x : List Int} {f : Nat → Option Bool} (hB : B x) {n : Nat} (ha : Asc x n) (h : Ev f (decide (Utf (x.drop n)))) : Ev f (decide (Utf x)) :=
  h.eq (decide_eq_decide.2 (Utf_skip n hB ha).symm)
theorem and_word {v : Nat} (hv : v < 18446744073709551616) : (bits .and .u64 (v : Int) 9259542123273814144 == 0) = decide (v &&& 9259542123273814144 = 0) := by
  have e := u64_and_nat v 9259542123273814144 hv (by omega)
  rw [show ((9259542123273814144 : Nat) : Int) = 9259542123273814144 from rfl] at e
  rw [e]
  by_cases c : v &&& 9259542123273814144 = 0
  · simp [c]
  · simp only [c, decide_false, beq_eq_false_iff_ne, ne_eq]
    intro h; apply c; exact Int.ofNat.inj h
theorem v1 {x : List Int} (hB : B x) (h0 : VL x) (hrest : ∀ n : Nat, 8 ≤ n → n ≤ x.length → VL (x.drop n) ∧ VM (x.drop n)) (f : Bool) (hf : f = true → Asc x 8) : Ev (fun k => utf8_Valid.j1 k x f) (decide (Utf x)) := by
  apply Ev.succ
  cases f with
  | false => simp only [utf8_Valid.j1, Bool.false_eq_true, if_false]; exact h0
  | true =>
    have ha := hf rfl
    have hlen := ha.1
    simp only [utf8_Valid.j1, if_true, if_pos (show 8 ≤ (x.length : Int) by omega), Option.bind_some]
    have hB8 := hB.drop 8
    have hl8 : (x.drop 8).length = x.length - 8 := List.length_drop
    by_cases c : ((x.drop 8).length : Int) > 16
    · obtain ⟨v, hv, hlt, hva⟩ := word_ev hB8 (by omega)
      obtain ⟨u, hu, hut, hua⟩ := word_ev (hB8.drop 8) (by rw [List.length_drop]; omega)
      simp only [if_pos c, hv, hu, Option.bind_some, if_pos (show 8 ≤ ((x.drop 8).length : Int) by omega), u64_or_nat _ _ hlt hut, and_word (or64 hlt hut)]
      apply Ev.succ
      by_cases d : (v ||| u) &&& 9259542123273814144 = 0
      · have d' := (Lib.or_mask _ _ _).1 d
        simp only [d, decide_true, utf8_Valid.j2, if_true, if_pos (show 16 ≤ ((x.drop 8).length : Int) by omega), List.drop_drop]
        exact skip_ev hB (ha.add ((hva d'.1).add (hua d'.2))) (hrest 24 (by omega) (by omega)).2
      · simp only [d, decide_false, utf8_Valid.j2, Bool.false_eq_true, if_false]
        exact skip_ev hB ha (hrest 8 (by omega) (by omega)).1
    · simp only [if_neg c]
      apply Ev.succ
      simp only [utf8_Valid.j2, Bool.false_eq_true, if_false]
      exact skip_ev hB ha (hrest 8 (by omega) (by omega)).1
theorem vm {x : List Int} (hB : B x) (h0 : VL x) (hrest : x.length > 32 → VM (x.drop 32)) : VM x := by
  apply Ev.succ
  by_cases c : (x.length : Int) > 32
  · obtain ⟨v0, e0, l0, a0⟩ := word_ev hB (by omega)
    obtain ⟨v1, e1, l1, a1⟩ := word_ev (hB.drop 8) (by rw [List.length_drop]; omega)
    obtain ⟨v2, e2, l2, a2⟩ := word_ev (hB.drop 16) (by rw [List.length_drop]; omega)
    obtain ⟨v3, e3, l3, a3⟩ := word_ev (hB.drop 24) (by rw [List.length_drop]; omega)
    simp only [utf8_Valid.l1, if_pos c, e0, e1, e2, e3, Option.bind_some, if_pos (show 8 ≤ (x.length : Int) by omega), if_pos (show 16 ≤ (x.length : Int) by omega), if_pos (show 24 ≤ (x.length : Int) by omega), u64_or_nat _ _ l0 l1, u64_or_nat _ _ l2 l3, u64_or_nat _ _ (or64 l0 l1) (or64 l2 l3), and_word (or64 (or64 l0 l1) (or64 l2 l3))]
    apply Ev.succ
    by_cases d : (v0 ||| v1 ||| (v2 ||| v3)) &&& 9259542123273814144 = 0
    · have d' := (Lib.or_mask _ _ _).1 d
      have d1 := (Lib.or_mask _ _ _).1 d'.1
      have d2 := (Lib.or_mask _ _ _).1 d'.2
      simp only [d, decide_true, utf8_Valid.j4, if_true, if_pos (show 32 ≤ (x.length : Int) by omega)]
      have q3 := a3 d2.2
      have q2 : Asc (x.drop 16) (8 + 8) := (a2 d2.1).add (by rw [List.drop_drop]; exact q3)
      have q1 : Asc (x.drop 8) (8 + (8 + 8)) := (a1 d1.2).add (by rw [List.drop_drop]; exact q2)
      exact skip_ev hB (n := 32) ((a0 d1.1).add q1) (hrest (by omega))
    · simp only [d, decide_false, utf8_Valid.j4, Bool.false_eq_true, if_false]
      exact h0
  · simp only [utf8_Valid.l1, if_neg c]
    apply Ev.succ
    simp only [utf8_Valid.j4, Bool.false_eq_true, if_false]
    exact h0
set_option maxHeartbeats 4000000 in
theorem vl {x : List Int} (hB : B x) (hrest : ∀ n : Nat, 1 ≤ n → n ≤ x.length → VL (x.drop n) ∧ VM (x.drop n)) : VL x := by
  apply Ev.succ
  by_cases hn : (x.length : Int) > 0
  · have hne : x ≠ [] := by intro e; subst e; simp at hn
    obtain ⟨b0, hb0⟩ : ∃ b, rd x 0 = b := ⟨_, rfl⟩
    have B0 := hB.rd 0
    rw [hb0] at B0
    simp only [utf8_Valid.l0, if_pos hn, hb0]
    by_cases c : b0 < 128
    · simp only [if_pos c, if_pos (show 1 ≤ (x.length : Int) by omega), Option.bind_some]
      have a1 : Asc x 1 := by
        refine ⟨by omega, fun d hd => ?_⟩
        obtain ⟨y, t, rfl⟩ := List.exists_cons_of_ne_nil hne
        simp at hd
        subst hd
        have : rd (d :: t) 0 = d := rfl
        omega
      refine skip_ev hB a1 ?_
      have h1 := (hrest 1 (by omega) (by omega)).1
      have hr : ∀ n : Nat, 8 ≤ n → n ≤ (x.drop 1).length → VL ((x.drop 1).drop n) ∧ VM ((x.drop 1).drop n) := fun n h8 hl => by
        rw [List.drop_drop]; exact hrest (1 + n) (by omega) (by rw [List.length_drop] at hl; omega)
      by_cases d : ((x.drop 1).length : Int) > 8
      · obtain ⟨v, hv, hlt, hva⟩ := word_ev (hB.drop 1) (by omega)
        simp only [if_pos d, hv, Option.bind_some, and_word hlt]
        exact v1 (hB.drop 1) h1 hr _ (fun h => hva (by simpa using h))
      · simp only [if_neg d]
        exact v1 (hB.drop 1) h1 hr false (fun h => by cases h)
    · obtain ⟨n0, rfl⟩ := Int.eq_ofNat_of_zero_le B0.1
      obtain ⟨X, hX⟩ : ∃ X, Lib.firstT n0 = X := ⟨_, rfl⟩
      have hXl : X < 256 := by rw [← hX]; exact firstT_lt _
      have er : rsAt x 0 = tsz (x.length : Int) (rd x 1) (rd x 2) (rd x 3) ((X % 8 : Nat) : Int) ((Lib.accLo (X / 16) : Nat) : Int) ((Lib.accHi (X / 16) : Nat) : Int) := by
        have := tab_rsz ((x.length : Int) - 0) (rd x 1) (rd x 2) (rd x 3) n0 (by omega) (by omega) (by omega)
        rw [hX] at this
        unfold rsAt
        rw [hb0]
        simpa using this
      have es : rs x = (rsAt x 0).toNat := rfl
      have e7 := and7 ⟨X, hXl⟩
      simp only at e7
      have e1 : rd_T161 gtab1 ((X : Int) / 16) = ⟨((Lib.accLo (X / 16) : Nat) : Int), ((Lib.accHi (X / 16) : Nat) : Int)⟩ := by
        rw [rd_gtab1 _ (by omega) (by omega), show ((X : Int) / 16).toNat = X / 16 by omega]
      simp only [if_neg c, if_pos B0.1, if_pos (show (n0 : Int) < 256 by omega), rd_gtab0 (n0 : Int) B0.1 (by omega), Int.toNat_natCast, hX, e7, e1, if_pos (show 0 ≤ (X : Int) / 16 by omega), if_pos (show (X : Int) / 16 < 16 by omega), wrap64_id (n := ((X % 8 : Nat) : Int)) (by omega) (by omega)]
      generalize ((Lib.accLo (X / 16) : Nat) : Int) = lo at er ⊢
      generalize ((Lib.accHi (X / 16) : Nat) : Int) = hi at er ⊢
      generalize ((X % 8 : Nat) : Int) = sz at er ⊢
      clear e1 e7 hX hXl
      have hr : ∀ n : Nat, 1 ≤ n → n ≤ x.length → VL (x.drop n) := fun n h1 h2 => (hrest n h1 h2).1
      by_cases s2 : sz = 2
      · subst s2
        simp only [if_true]
        have er2 : rsAt x 0 = if (x.length : Int) < 2 ∨ rd x 1 < lo ∨ hi < rd x 1 then 0 else 2 := er
        by_cases q0 : (x.length : Int) < 2
        · simp only [if_pos q0]
          exact v5 hne true (fun _ => by rw [es, er2, if_pos (.inl q0)]; rfl) (fun h => by cases h)
        simp only [if_neg q0, if_pos (show 1 < (x.length : Int) by omega)]
        by_cases q1 : rd x 1 < lo
        · simp only [if_pos q1]
          exact v5 hne true (fun _ => by rw [es, er2, if_pos (.inr (.inl q1))]; rfl) (fun h => by cases h)
        simp only [if_neg q1]
        exact v5 hne _ (fun h => by rw [es, er2, if_pos (.inr (.inr (by simpa using h)))]; rfl) (fun h => by
          have h' : ¬ hi < rd x 1 := by simpa using h
          rw [es, er2, if_neg (by omega)]; exact ⟨rfl, hr 2 (by omega) (by omega)⟩)
      simp only [if_neg s2]
      by_cases s3 : sz = 3
      · subst s3
        simp only [if_true]
        have er2 : rsAt x 0 = if (x.length : Int) < 3 ∨ rd x 1 < lo ∨ hi < rd x 1 ∨ rd x 2 < 128 ∨ 191 < rd x 2 then 0 else 3 := er
        by_cases q0 : (x.length : Int) < 3
        · simp only [if_pos q0]
          exact v6 hne true (fun _ => by rw [es, er2, if_pos (.inl q0)]; rfl) (fun h => by cases h)
        simp only [if_neg q0, if_pos (show 1 < (x.length : Int) by omega), if_pos (show 2 < (x.length : Int) by omega)]
        by_cases q1 : rd x 1 < lo
        · simp only [if_pos q1]
          exact v6 hne true (fun _ => by rw [es, er2, if_pos (by omega)]; rfl) (fun h => by cases h)
        simp only [if_neg q1]
        by_cases q2 : hi < rd x 1
        · simp only [if_pos q2]
          exact v6 hne true (fun _ => by rw [es, er2, if_pos (by omega)]; rfl) (fun h => by cases h)
        simp only [if_neg q2]
        by_cases q3 : rd x 2 < 128
        · simp only [if_pos q3]
          exact v6 hne true (fun _ => by rw [es, er2, if_pos (by omega)]; rfl) (fun h => by cases h)
        simp only [if_neg q3]
        exact v6 hne _ (fun h => by
          have h' : 191 < rd x 2 := by simpa using h
          rw [es, er2, if_pos (by omega)]; rfl) (fun h => by
          have h' : ¬ 191 < rd x 2 := by simpa using h
          rw [es, er2, if_neg (by omega)]; exact ⟨rfl, hr 3 (by omega) (by omega)⟩)
      simp only [if_neg s3]
      by_cases s4 : sz = 4
      · subst s4
        simp only [if_true]
        have er2 : rsAt x 0 = if (x.length : Int) < 4 ∨ rd x 1 < lo ∨ hi < rd x 1 ∨ rd x 2 < 128 ∨ 191 < rd x 2 ∨ rd x 3 < 128 ∨ 191 < rd x 3 then 0 else 4 := er
        by_cases q0 : (x.length : Int) < 4
        · simp only [if_pos q0]
          exact v7 hne true (fun _ => by rw [es, er2, if_pos (.inl q0)]; rfl) (fun h => by cases h)
        simp only [if_neg q0, if_pos (show 1 < (x.length : Int) by omega), if_pos (show 2 < (x.length : Int) by omega), if_pos (show 3 < (x.length : Int) by omega)]
        by_cases q1 : rd x 1 < lo
        · simp only [if_pos q1]
          exact v7 hne true (fun _ => by rw [es, er2, if_pos (by omega)]; rfl) (fun h => by cases h)
        simp only [if_neg q1]
        by_cases q2 : hi < rd x 1
        · simp only [if_pos q2]
          exact v7 hne true (fun _ => by rw [es, er2, if_pos (by omega)]; rfl) (fun h => by cases h)
        simp only [if_neg q2]
        by_cases q3 : rd x 2 < 128
        · simp only [if_pos q3]
          exact v7 hne true (fun _ => by rw [es, er2, if_pos (by omega)]; rfl) (fun h => by cases h)
        simp only [if_neg q3]
        by_cases q4 : 191 < rd x 2
        · simp only [if_pos q4]
          exact v7 hne true (fun _ => by rw [es, er2, if_pos (by omega)]; rfl) (fun h => by cases h)
        simp only [if_neg q4]
        by_cases q5 : rd x 3 < 128
        · simp only [if_pos q5]
          exact v7 hne true (fun _ => by rw [es, er2, if_pos (by omega)]; rfl) (fun h => by cases h)
        simp only [if_neg q5]
        exact v7 hne _ (fun h => by
          have h' : 191 < rd x 3 := by simpa using h
          rw [es, er2, if_pos (by omega)]; rfl) (fun h => by
          have h' : ¬ 191 < rd x 3 := by simpa using h
          rw [es, er2, if_neg (by omega)]; exact ⟨rfl, hr 4 (by omega) (by omega)⟩)
      simp only [if_neg s4]
      refine (Ev.pure _).eq ?_
      rw [eq_comm, decide_eq_false_iff_not, Utf_rs hne, es, er]
      unfold tsz
      rw [if_neg s2, if_neg s3, if_neg s4]; simp
  · have : x = [] := by cases x; rfl; simp at hn
    subst this
    simp only [utf8_Valid.l0, if_neg hn]
    refine (Ev.pure _).eq ?_
    simp [Utf.nil]
theorem vboth : ∀ (n : Nat) (x : List Int), x.length ≤ n → B x → VL x ∧ VM x := by
  intro n
  induction n with
  | zero =>
    intro x hx hB
    have : VL x := vl hB (fun m h1 h2 => by omega)
    exact ⟨this, vm hB this (fun h => by omega)⟩
  | succ n ih =>
    intro x hx hB
    have hr : ∀ m : Nat, 1 ≤ m → m ≤ x.length → VL (x.drop m) ∧ VM (x.drop m) := fun m h1 h2 => ih _ (by rw [List.length_drop]; omega) (hB.drop m)
    have : VL x := vl hB hr
    exact ⟨this, vm hB this (fun h => (hr 32 (by omega) (by omega)).2)⟩
theorem Valid_ev {l : List Int} (hB : B l) : Ev (fun k => utf8_Valid.f k l) (decide (Utf l)) := by
  have h := (vboth l.length l (Nat.le_refl _) hB).1
  refine Ev.congr h fun k => ?_
  simp [utf8_Valid.f]
def EOk (l : List Int) (a c : Int) (m : List Int) : Prop :=
  (l.length : Int) ≤ 400 ∧ Bd l a ∧ 0 ≤ c ∧ c ≤ (l.length : Int) - a ∧ Bd l (a + c) ∧ (m.length : Int) ≤ 400 ∧ Utf m ∧ (l.length : Int) - c + (m.length : Int) ≤ 400
noncomputable def edo (l : List Int) (a c : Int) (m : List Int) : List Int × Bool := if EOk l a c m then (l.take a.toNat ++ m ++ l.drop (a + c).toNat, true) else ([], false)
theorem EditOk_ev {l m : List Int} (hB : B l) (hm : B m) (a c : Int) : Ev (fun k => spec_EditOk.f k l a c m) (decide (EOk l a c m)) := by
  have no : ∀ {v : Bool}, v = true → ¬ EOk l a c m → Ev (fun k => spec_EditOk.j0 k l v a c m) (decide (EOk l a c m)) := fun hv h => by
    subst hv
    apply Ev.succ
    simp only [spec_EditOk.j0, if_true]
    exact (Ev.pure _).eq (by simp [h])
  refine Ev.bind (TextOk_ev hB) (Ev.ite (fun h => ?_) (fun h => no rfl (fun e => h (by simp; exact ⟨e.1, e.2.1.utf⟩))))
  simp only [decide_eq_true_eq] at h
  refine Ev.bind (CutOk_ev hB h.1 a) (Ev.ite (fun h1 => ?_) (fun h1 => no rfl (fun e => h1 (by simp; exact e.2.1))))
  simp only [decide_eq_true_eq] at h1
  have hr := h1.range
  refine Ev.ite (fun h2 => no rfl (fun e => by have := e.2.2.1; omega)) (fun h2 => ?_)
  rw [wrap64_id (n := (l.length : Int) - a) (by omega) (by omega)]
  refine Ev.ite (fun h3 => no rfl (fun e => by have := e.2.2.2.1; omega)) (fun h3 => ?_)
  rw [wrap64_id (n := a + c) (by omega) (by omega)]
  refine Ev.bind (CutOk_ev hB h.1 (a + c)) (Ev.ite (fun h4 => ?_) (fun h4 => no rfl (fun e => h4 (by simp; exact e.2.2.2.2.1))))
  simp only [decide_eq_true_eq] at h4
  refine Ev.bind (TextOk_ev hm) ?_
  by_cases h5 : (m.length : Int) ≤ 400 ∧ Utf m
  · apply Ev.succ
    simp only [spec_EditOk.j0, h5, and_self, decide_true, Bool.not_true, Bool.false_eq_true, if_false]
    refine (Ev.pure _).eq (decide_eq_decide.2 ?_)
    rw [wrap64_id (n := (l.length : Int) - c) (by omega) (by omega), wrap64_id (n := (l.length : Int) - c + _) (by omega) (by omega)]
    exact ⟨fun e => ⟨h.1, h1, by omega, by omega, h4, h5.1, h5.2, e⟩, fun e => e.2.2.2.2.2.2.2⟩
  · exact no (by simp only [decide_eq_false h5]; rfl) (fun e => h5 ⟨e.2.2.2.2.2.1, e.2.2.2.2.2.2.1⟩)
theorem EditDo_ev {l m : List Int} (hB : B l) (hm : B m) (a c : Int) : Ev (fun k => spec_EditDo.f k l a c m) (edo l a c m) := by
  refine Ev.bind (EditOk_ev hB hm a c) ?_
  unfold edo
  by_cases h : EOk l a c m
  · have h1 := h.1
    have hr := h.2.1.range
    have h2 := h.2.2.1
    have h3 := h.2.2.2.1
    have h4 := h.2.2.2.2.2.1
    simp only [h, decide_true, if_true, Option.bind_some, List.nil_append, List.length_nil, if_pos hr.1, if_pos hr.2]
    rw [wrap64_id (n := a + c) (by omega) (by omega)]
    have e1 : (l.take a.toNat).length ≤ 400 := by rw [List.length_take]; omega
    have e2 : (l.drop (a + c).toNat).length ≤ 400 := by rw [List.length_drop]; omega
    simp only [if_pos (show 0 + (l.take a.toNat).length < 140737488355328 by omega), if_pos (show (l.take a.toNat).length + m.length < 140737488355328 by omega), if_pos (show 0 ≤ a + c by omega), if_pos (show a + c ≤ (l.length : Int) by omega), if_pos (show (l.take a.toNat ++ m).length + (l.drop (a + c).toNat).length < 140737488355328 by rw [List.length_append]; omega)]
    exact Ev.pure _
  · simp only [h, decide_false, Bool.false_eq_true, if_false]
    exact Ev.pure _
theorem isText_ev {l : List Int} (hB : B l) : Ev (fun k => impl_isText.f k l) (decide ((l.length : Int) ≤ 400 ∧ Utf l)) := by
  refine Ev.ite (fun h => ?_) (fun h => (Ev.pure _).eq (by simp; intro e; omega))
  exact Ev.bind (Valid_ev hB) ((Ev.pure _).eq (by simp [h]))
theorem in_eq (a b c : Int) : impl_in.f a b c = some (decide (b ≤ a ∧ a ≤ c)) := by
  unfold impl_in.f
  by_cases h : b ≤ a <;> simp [h]
set_option maxRecDepth 100000 in
theorem start_bits : ∀ X : Fin 256, (bits .and .u8 ((X.val : Nat) : Int) 192 != 128) = !(decide (128 ≤ X.val) && decide (X.val ≤ 191)) := by decide +kernel
theorem RuneStart_eq {b : Int} (h0 : 0 ≤ b) (h1 : b ≤ 255) : utf8_RuneStart.f b = some (decide (¬ (128 ≤ b ∧ b ≤ 191))) := by
  obtain ⟨n, rfl⟩ := Int.eq_ofNat_of_zero_le h0
  unfold utf8_RuneStart.f
  have := start_bits ⟨n, by omega⟩
  simp only at this
  rw [this]
  congr 1
  by_cases c1 : 128 ≤ n <;> by_cases c2 : n ≤ 191 <;> simp [c1, c2] <;> omega
theorem rs_cont {l : List Int} {i : Int} (h0 : 0 < i) (h1 : i < (rs l : Int)) : 128 ≤ rd l i ∧ rd l i ≤ 191 := by
  have e := rs_eq l
  unfold rsAt rsz at e
  simp only [Int.zero_add] at e
  repeat' split at e
  all_goals first
    | omega
    | (have : i = 1 ∨ i = 2 ∨ i = 3 := by omega
       rcases this with rfl | rfl | rfl <;> omega)
    | skip
  all_goals (have : i = 1 ∨ i = 2 ∨ i = 3 := by omega)
  all_goals (rcases this with rfl | rfl | rfl <;> first | omega | (simp_all; done) | (split at * <;> omega))
theorem rs_head {l : List Int} (h : rs l ≠ 0) : ¬ (128 ≤ rd l 0 ∧ rd l 0 ≤ 191) := by
  have e := rs_eq l
  unfold rsAt rsz at e
  simp only [Int.zero_add] at e
  repeat' split at e
  all_goals omega
theorem Bd_start {l : List Int} (hu : Utf l) : ∀ a : Int, 0 ≤ a → a < (l.length : Int) → (Bd l a ↔ ¬ (128 ≤ rd l a ∧ rd l a ≤ 191)) := by
  induction hu with
  | nil => intro a h0 h1; simp at h1; omega
  | cons l h1 h2 ih =>
    intro a ha hl
    have hne : l ≠ [] := by intro e; subst e; simp at hl; omega
    have hle := rs_le l
    rw [Bd.step hne (.cons l h1 h2)]
    by_cases c0 : a = 0
    · subst c0; simp only [true_or, true_iff]; exact rs_head h1
    by_cases c : a < (rs l : Int)
    · have := rs_cont (l := l) (i := a) (by omega) c
      constructor
      · rintro (h | h)
        · exact absurd h c0
        · have := h.range; omega
      · intro h; exact absurd this h
    · have := ih (a - (rs l : Int)) (by omega) (by rw [List.length_drop]; omega)
      rw [show rd (l.drop (rs l)) (a - (rs l : Int)) = rd l a by
        have := rd_drop (l := l) (i := (rs l : Int)) (j := a - (rs l : Int)) (by omega) (by omega)
        rw [Int.toNat_natCast] at this
        rw [this]; congr 1; omega] at this
      rw [this]
      simp [c0]
theorem isCut_eq {l : List Int} (hB : B l) (hl : (l.length : Int) ≤ 1000000) (hu : Utf l) (a : Int) : impl_isCut.f l a = some (decide (Bd l a)) := by
  unfold impl_isCut.f
  by_cases c : a = (l.length : Int)
  · subst c; simp [Bd.end hu]
  rw [if_neg c, in_eq, wrap64_id (n := (l.length : Int) - 1) (by omega) (by omega)]
  simp only [Option.bind_some, decide_eq_true_eq]
  by_cases d : 0 ≤ a ∧ a ≤ (l.length : Int) - 1
  · rw [if_pos d, if_pos d.1, if_pos (by omega), RuneStart_eq (hB.rd a).1 (hB.rd a).2]
    simp only [Option.bind_some, Option.some.injEq]
    exact decide_eq_decide.2 (Bd_start hu a d.1 (by omega)).symm
  · rw [if_neg d]
    simp only [Option.some.injEq]
    rw [eq_comm, decide_eq_false_iff_not]
    intro h
    have := h.range
    omega
theorem isEdit_ev {l m : List Int} (hB : B l) (hm : B m) (a c : Int) : Ev (fun k => impl_isEdit.f k l a c m) (decide (EOk l a c m)) := by
  have no : ¬ EOk l a c m → Ev (fun _ => some false) (decide (EOk l a c m)) := fun h => (Ev.pure _).eq (by simp [h])
  refine Ev.bind (isText_ev hB) (Ev.ite (fun h => ?_) (fun h => no (fun e => h (by simp; exact ⟨e.1, e.2.1.utf⟩))))
  simp only [decide_eq_true_eq] at h
  refine Ev.bind (Ev.const (isCut_eq hB (by omega) h.2 a)) (Ev.ite (fun h1 => ?_) (fun h1 => no (fun e => h1 (by simp; exact e.2.1))))
  simp only [decide_eq_true_eq] at h1
  have hr := h1.range
  rw [wrap64_id (n := (l.length : Int) - a) (by omega) (by omega)]
  refine Ev.bind (Ev.const (in_eq c 0 ((l.length : Int) - a))) (Ev.ite (fun h3 => ?_) (fun h3 => no (fun e => h3 (by simp; exact ⟨e.2.2.1, e.2.2.2.1⟩))))
  simp only [decide_eq_true_eq] at h3
  rw [wrap64_id (n := a + c) (by omega) (by omega)]
  refine Ev.bind (Ev.const (isCut_eq hB (by omega) h.2 (a + c))) (Ev.ite (fun h4 => ?_) (fun h4 => no (fun e => h4 (by simp; exact e.2.2.2.2.1))))
  simp only [decide_eq_true_eq] at h4
  refine Ev.bind (isText_ev hm) (Ev.ite (fun h5 => ?_) (fun h5 => no (fun e => h5 (by simp; exact ⟨e.2.2.2.2.2.1, e.2.2.2.2.2.2.1⟩))))
  simp only [decide_eq_true_eq] at h5
  refine (Ev.pure _).eq (decide_eq_decide.2 ?_)
  rw [wrap64_id (n := (l.length : Int) - c) (by omega) (by omega), wrap64_id (n := (l.length : Int) - c + _) (by omega) (by omega)]
  exact ⟨fun e => ⟨h.1, h1, by omega, by omega, h4, h5.1, h5.2, e⟩, fun e => e.2.2.2.2.2.2.2⟩
theorem rd_L2_eq {L : List (List Int)} {i : Int} (h0 : 0 ≤ i) (h1 : i < (L.length : Int)) : L.drop i.toNat = rd_L2 L i :: L.drop (i + 1).toNat := by
  rw [List.drop_eq_getElem_cons (show i.toNat < L.length by omega), show (i + 1).toNat = i.toNat + 1 by omega]
  unfold rd_L2
  rw [List.getD_eq_getElem?_getD, List.getElem?_eq_getElem (show i.toNat < L.length by omega)]; rfl
theorem Concat_l1 {L : List (List Int)} (hL : L.flatten.length ≤ 1000000000) (hn : (L.length : Int) ≤ 1000000000) : ∀ (n : Nat) (i : Int) (acc : List Int), 0 ≤ i → i ≤ (L.length : Int) → (L.length : Int) - i ≤ n → acc.length ≤ 1000000000 → (L.drop i.toNat).flatten.length ≤ 1000000000 →
    acc.length + (L.drop i.toNat).flatten.length ≤ 1000000000 → Ev (fun k => slices_Concat_byte_byte.l1 k acc L (L.length : Int) i) (acc ++ (L.drop i.toNat).flatten) := by
  intro n
  induction n with
  | zero =>
    intro i acc h0 h1 hn ha hd hs
    apply Ev.succ
    simp only [slices_Concat_byte_byte.l1, if_neg (show ¬ i < (L.length : Int) by omega)]
    rw [List.drop_eq_nil_of_le (by omega)]
    exact (Ev.pure _).eq (by simp)
  | succ n ih =>
    intro i acc h0 h1 hn' ha hd hs
    apply Ev.succ
    by_cases c : i < (L.length : Int)
    · rw [rd_L2_eq h0 c, List.flatten_cons, List.length_append] at hs
      simp only [slices_Concat_byte_byte.l1, if_pos c, if_pos h0, if_pos (show acc.length + (rd_L2 L i).length < 140737488355328 by omega), wrap64_id (n := i + 1) (by omega) (by omega)]
      refine (ih (i + 1) (acc ++ rd_L2 L i) (by omega) (by omega) (by omega) (by rw [List.length_append]; omega) (by omega) (by rw [List.length_append]; omega)).eq ?_
      rw [rd_L2_eq h0 c, List.flatten_cons, List.append_assoc]
    · simp only [slices_Concat_byte_byte.l1, if_neg c]
      rw [List.drop_eq_nil_of_le (by omega)]
      exact (Ev.pure _).eq (by simp)
theorem Concat_l0 {L : List (List Int)} (hL : L.flatten.length ≤ 1000000000) (hn : (L.length : Int) ≤ 1000000000) : ∀ (n : Nat) (i s : Int), 0 ≤ i → i ≤ (L.length : Int) → (L.length : Int) - i ≤ n → 0 ≤ s → s + (L.drop i.toNat).flatten.length ≤ 1000000000 →
    Ev (fun k => slices_Concat_byte_byte.l0 k L s L (L.length : Int) i) L.flatten := by
  intro n
  have fin : ∀ s : Int, 0 ≤ s → s ≤ 1000000000 → Ev (fun k => (slices_Grow_byte_byte.f ([] : List Int) s).bind fun t => slices_Concat_byte_byte.l1 k t L (L.length : Int) 0) L.flatten := by
    intro s h0 h1
    refine Ev.bind (Ev.const (v := ([] : List Int)) ?_) ((Concat_l1 hL hn L.length 0 [] (by omega) (by omega) (by omega) (by simp) (by simpa using hL) (by simpa using hL)).eq (by simp))
    unfold slices_Grow_byte_byte.f
    rw [if_pos h0, if_pos (by omega)]
  induction n with
  | zero =>
    intro i s h0 h1 hn hs hd
    apply Ev.succ
    simp only [slices_Concat_byte_byte.l0, if_neg (show ¬ i < (L.length : Int) by omega)]
    exact fin s hs (by omega)
  | succ n ih =>
    intro i s h0 h1 hn' hs hd
    apply Ev.succ
    by_cases c : i < (L.length : Int)
    · rw [rd_L2_eq h0 c, List.flatten_cons, List.length_append] at hd
      have hw : wrap64 (s + ((rd_L2 L i).length : Int)) = s + ((rd_L2 L i).length : Int) := wrap64_id (by omega) (by omega)
      simp only [slices_Concat_byte_byte.l0, if_pos c, if_pos h0, hw, if_neg (show ¬ s + ((rd_L2 L i).length : Int) < 0 by omega), wrap64_id (n := i + 1) (by omega) (by omega)]
      exact ih (i + 1) _ (by omega) (by omega) (by omega) (by omega) (by omega)
    · simp only [slices_Concat_byte_byte.l0, if_neg c]
      exact fin s hs (by omega)
theorem Concat_ev {L : List (List Int)} (hL : L.flatten.length ≤ 1000000000) (hn : (L.length : Int) ≤ 1000000000) : Ev (fun k => slices_Concat_byte_byte.f k L) L.flatten :=
  Concat_l0 hL hn L.length 0 0 (by omega) (by omega) (by omega) (by omega) (by show (0 : Int) + (L.flatten.length : Int) ≤ _; omega)
theorem Edit_do_ev {l m : List Int} {a c : Int} (hl : (l.length : Int) ≤ 1000000) (hm : (m.length : Int) ≤ 1000000) (h0 : 0 ≤ a) (h1 : a ≤ (l.length : Int)) (h2 : 0 ≤ a + c) (h3 : a + c ≤ (l.length : Int)) :
    Ev (fun k => impl_Edit_do.f k a c m l) (l.take a.toNat ++ m ++ l.drop (a + c).toNat) := by
  simp only [impl_Edit_do.f, if_pos h0, if_pos h1, wrap64_id (n := a + c) (by omega) (by omega), if_pos h2, if_pos h3]
  refine Ev.bind (Concat_ev ?_ ?_) ((Ev.pure _).eq ?_)
  · simp; omega
  · simp
  · simp
theorem impl_EditDo_ev {l m : List Int} (hB : B l) (hm : B m) (a c : Int) : Ev (fun k => impl_EditDo.f k l a c m) (edo l a c m) := by
  refine Ev.bind (isEdit_ev hB hm a c) ?_
  unfold edo
  by_cases h : EOk l a c m
  · have h1 := h.1
    have hr := h.2.1.range
    have h2 := h.2.2.1
    have h3 := h.2.2.2.1
    have h4 := h.2.2.2.2.2.1
    simp only [h, decide_true, if_true]
    exact Ev.bind (Edit_do_ev (by omega) (by omega) hr.1 hr.2 (by omega) (by omega)) (Ev.pure _)
  · simp only [h, decide_false, Bool.false_eq_true, if_false]
    exact Ev.pure _
def St (n p q : Int) : Prop := 0 ≤ p ∧ p ≤ n ∧ 0 ≤ q ∧ q ≤ 70000
theorem St.up {n m p q : Int} (h : St n p q) (hm : n ≤ m) : St m p q := ⟨h.1, by have := h.2.1; omega, h.2.2⟩
def Src (s : List Int) : Prop := B s ∧ (s.length : Int) ≤ 1048576
theorem tmod_nn {a b : Int} (h : 0 ≤ a) : Int.tmod a b = a % b := Int.tmod_eq_emod_of_nonneg h
theorem pick_ok {s : List Int} (hs : Src s) {n p q a : Int} (h : St n p q) (hn : n ≤ 1000000000) (ha : a ≤ 1000000000) :
    ∃ r p' q', spec_l01Cur_pick.f s p q a = some (r, p', q') ∧ St (n + 1) p' q' ∧ 0 ≤ r ∧ (2 ≤ a → r < a) ∧ (a < 2 → r = 0) := by
  obtain ⟨hB, hl⟩ := hs
  obtain ⟨p0, pn, q0, qn⟩ := h
  unfold spec_l01Cur_pick.f
  by_cases c : a < 2
  · rw [if_pos c]
    exact ⟨0, p, q, rfl, ⟨p0, by omega, q0, qn⟩, by omega, by omega, fun _ => rfl⟩
  rw [if_neg c]
  have na : ¬ a = 0 := by omega
  have hp : wrap64 (p + 1) = p + 1 := wrap64_id (by omega) (by omega)
  by_cases d : p < (s.length : Int)
  · rw [if_pos d, if_pos p0, if_neg na, hp]
    have b := hB.rd p
    rw [wrap64_id (n := rd s p) (by omega) (by omega), tmod_nn b.1]
    have e := Int.emod_nonneg (rd s p) na
    have f := Int.emod_lt_of_pos (rd s p) (show 0 < a by omega)
    exact ⟨_, _, _, rfl, ⟨by omega, by omega, q0, qn⟩, e, fun _ => f, fun h => absurd h c⟩
  rw [if_neg d, wrap64_id (n := q * 1103) (by omega) (by omega), wrap64_id (n := q * 1103 + 12345) (by omega) (by omega), hp, tmod_nn (a := q * 1103 + 12345) (by omega)]
  have q1 : St (n + 1) (p + 1) ((q * 1103 + 12345) % 65521) := ⟨by omega, by omega, by omega, by omega⟩
  by_cases e : (s.length : Int) > 0
  · have m0 := Int.emod_nonneg p (show (s.length : Int) ≠ 0 by omega)
    have m1 := Int.emod_lt_of_pos p e
    rw [if_pos e, if_neg (by omega), tmod_nn p0, if_pos m0, if_pos m1, if_neg na]
    have b := hB.rd (p % (s.length : Int))
    rw [Int.tdiv_eq_ediv_of_nonneg (by omega)]
    rw [wrap64_id (n := (q * 1103 + 12345) % 65521 / 7) (by omega) (by omega), wrap64_id (n := rd s (p % (s.length : Int))) (by omega) (by omega), wrap64_id (n := _ + rd s (p % (s.length : Int))) (by omega) (by omega), tmod_nn (by omega)]
    have g := Int.emod_nonneg ((q * 1103 + 12345) % 65521 / 7 + rd s (p % (s.length : Int))) na
    have f := Int.emod_lt_of_pos ((q * 1103 + 12345) % 65521 / 7 + rd s (p % (s.length : Int))) (show 0 < a by omega)
    exact ⟨_, _, _, rfl, q1, g, fun _ => f, fun h => absurd h c⟩
  · rw [if_neg e, if_neg na]
    refine ⟨_, _, _, rfl, q1, ?_, fun _ => ?_, fun h => absurd h c⟩
    · simp
    · simp; omega
theorem size_ok {s : List Int} (hs : Src s) {n p q a : Int} (h : St n p q) (hn : n ≤ 1000000000) (h0 : 0 ≤ a) (ha : a ≤ 1000000) :
    ∃ r p' q', spec_l01Cur_size.f s p q a = some (r, p', q') ∧ St (n + 1) p' q' ∧ 0 ≤ r ∧ r ≤ a := by
  have hl := hs.2
  have e : wrap64 (mn a (wrap64 (1 + wrap64 ((s.length : Int) / 8))) + 1) = mn a (1 + (s.length : Int) / 8) + 1 := by
    rw [wrap64_id (n := (s.length : Int) / 8) (by omega) (by omega), wrap64_id (n := 1 + (s.length : Int) / 8) (by omega) (by omega)]
    unfold mn
    split <;> exact wrap64_id (by omega) (by omega)
  have m : 0 ≤ mn a (1 + (s.length : Int) / 8) ∧ mn a (1 + (s.length : Int) / 8) ≤ a := by unfold mn; split <;> omega
  obtain ⟨r, p', q', h1, h2, h3, h4, h5⟩ := pick_ok hs h hn (a := mn a (1 + (s.length : Int) / 8) + 1) (by omega)
  refine ⟨r, p', q', ?_, h2, h3, ?_⟩
  · unfold spec_l01Cur_size.f; rw [e, h1]; rfl
  · by_cases c : 2 ≤ mn a (1 + (s.length : Int) / 8) + 1
    · have := h4 c; omega
    · have := h5 (by omega); omega
theorem rune_ok {s : List Int} (hs : Src s) {n p q : Int} (h : St n p q) (hn : n ≤ 900000000) :
    ∃ r p' q', spec_l01Cur_rune.f s p q = some (r, p', q') ∧ St (n + 3) p' q' := by
  obtain ⟨r1, p1, q1, e1, s1, _⟩ := pick_ok hs h (by omega) (a := 3) (by omega)
  obtain ⟨r2, p2, q2, e2, s2, _⟩ := pick_ok hs s1 (by omega) (a := 3) (by omega)
  obtain ⟨r3, p3, q3, e3, s3, g0, g1, _⟩ := pick_ok hs s2 (by omega) (a := 14) (by omega)
  have g1 := g1 (by omega)
  unfold spec_l01Cur_rune.f
  simp only [e1, e2, e3, Option.bind_some, if_pos g0, List.length_cons, List.length_nil]
  rw [if_pos (by omega)]
  exact ⟨_, _, _, rfl, s3.up (by omega)⟩
theorem text_loop {s : List Int} (hs : Src s) {a : Int} (h0 : 0 ≤ a) : ∀ (m : Nat) (x : List Int) (j n p q : Int), St n p q → n + 3 * m ≤ 900000000 → j ≤ m → B x → x.length + 4 * m ≤ 1000000000 →
    ∃ y p' q', Ev (fun k => spec_l01Cur_text.l0 k a x j s p q) (y, p', q') ∧ St (n + 3 * m) p' q' ∧ B y ∧ (y.length : Int) ≤ a := by
  intro m
  have stop : ∀ (x : List Int) (j n p q : Int), St n p q → ¬ j > 0 → B x → ∃ y p' q', Ev (fun k => spec_l01Cur_text.l0 k a x j s p q) (y, p', q') ∧ St n p' q' ∧ B y ∧ (y.length : Int) ≤ a := by
    intro x j n p q hS hj hB
    by_cases c : (x.length : Int) > a
    · refine ⟨[], p, q, Ev.succ ?_, hS, .nil, by simp; omega⟩
      simp only [spec_l01Cur_text.l0, if_neg hj, if_pos c, if_pos (show 0 ≤ (x.length : Int) by omega)]
      exact (Ev.pure _).eq (by simp)
    · refine ⟨x, p, q, Ev.succ ?_, hS, hB, by omega⟩
      simp only [spec_l01Cur_text.l0, if_neg hj, if_neg c]
      exact Ev.pure _
  induction m with
  | zero =>
    intro x j n p q hS hn hj hB hx
    obtain ⟨y, p', q', h1, h2, h3, h4⟩ := stop x j n p q hS (by omega) hB
    exact ⟨y, p', q', h1, h2.up (by omega), h3, h4⟩
  | succ m ih =>
    intro x j n p q hS hn hj hB hx
    by_cases c : j > 0
    · obtain ⟨r, p1, q1, e1, s1⟩ := rune_ok hs hS (by omega)
      have rl : (rbytes r).length ≤ 4 := by unfold rbytes; repeat' split
                                            all_goals simp
      obtain ⟨y, p', q', h1, h2, h3, h4⟩ := ih (x ++ rbytes r) (wrap64 (j - 1)) (n + 3) p1 q1 s1 (by omega) (by rw [wrap64_id (by omega) (by omega)]; omega) (hB.app (rbytes_B r)) (by rw [List.length_append]; omega)
      refine ⟨y, p', q', Ev.succ ?_, h2.up (by omega), h3, h4⟩
      simp only [spec_l01Cur_text.l0, if_pos c, e1, Option.bind_some]
      refine Ev.bind (RuneBytes_ev r) ?_
      simp only [if_pos (show x.length + (rbytes r).length < 140737488355328 by omega)]
      exact h1
    · obtain ⟨y, p', q', h1, h2, h3, h4⟩ := stop x j n p q hS c hB
      exact ⟨y, p', q', h1, h2.up (by omega), h3, h4⟩
theorem text_ok {s : List Int} (hs : Src s) {n p q : Int} (h : St n p q) (hn : n ≤ 800000000) {a : Nat} (ha : a ≤ 1000000) :
    ∃ y p' q', Ev (fun k => spec_l01Cur_text.f k s p q (a : Int)) (y, p', q') ∧ St (n + 1 + 3 * a) p' q' ∧ B y ∧ (y.length : Int) ≤ a := by
  obtain ⟨r, p1, q1, e1, s1, r0, r1⟩ := size_ok hs h (by omega) (a := (a : Int)) (by omega) (by omega)
  obtain ⟨y, p', q', h1, h2, h3, h4⟩ := text_loop hs (a := (a : Int)) (by omega) a [] r (n + 1) p1 q1 s1 (by omega) r1 .nil (by simp; omega)
  refine ⟨y, p', q', ?_, h2, h3, h4⟩
  simp only [spec_l01Cur_text.f, e1, Option.bind_some]
  exact h1
theorem raw_ok {s : List Int} (hs : Src s) {n p q : Int} (h : St n p q) (hn : n ≤ 900000000) : ∃ r p' q', spec_l01Cur_raw.f s p q = some (r, p', q') ∧ St (n + 2) p' q' := by
  obtain ⟨r1, p1, q1, e1, s1, _⟩ := pick_ok hs h (by omega) (a := 8) (by omega)
  unfold spec_l01Cur_raw.f
  simp only [e1, Option.bind_some]
  by_cases c : r1 = 0
  · obtain ⟨r2, p2, q2, e2, s2, _⟩ := pick_ok hs s1 (by omega) (a := 256) (by omega)
    simp only [if_pos c, e2, Option.bind_some]
    exact ⟨_, _, _, rfl, s2.up (by omega)⟩
  by_cases d : r1 = 1
  · obtain ⟨r2, p2, q2, e2, s2, g0, g1, _⟩ := pick_ok hs s1 (by omega) (a := 8) (by omega)
    have g1 := g1 (by omega)
    simp only [if_neg c, if_pos d, e2, Option.bind_some, if_pos g0, List.length_cons, List.length_nil]
    rw [if_pos (by omega)]
    exact ⟨_, _, _, rfl, s2.up (by omega)⟩
  · obtain ⟨r2, p2, q2, e2, s2, _⟩ := pick_ok hs s1 (by omega) (a := 14) (by omega)
    simp only [if_neg c, if_neg d, e2, Option.bind_some]
    exact ⟨_, _, _, rfl, s2.up (by omega)⟩
theorem place_ok {s : List Int} (hs : Src s) {n p q a : Int} (h : St n p q) (hn : n ≤ 800000000) (h0 : 0 ≤ a) (ha : a ≤ 1000000) : ∃ r p' q', spec_l01Cur_place.f s p q a = some (r, p', q') ∧ St (n + 5) p' q' := by
  have e : wrap64 (a + 1) = a + 1 := wrap64_id (by omega) (by omega)
  have m : mx 1 (a + 1) ≤ 1000000000 := by unfold mx; split <;> omega
  obtain ⟨r1, p1, q1, e1, s1, _⟩ := pick_ok hs h (by omega) m
  obtain ⟨r2, p2, q2, e2, s2, _⟩ := pick_ok hs s1 (by omega) m
  obtain ⟨r3, p3, q3, e3, s3⟩ := raw_ok hs s2 (by omega)
  obtain ⟨r4, p4, q4, e4, s4, g0, g1, _⟩ := pick_ok hs s3 (by omega) (a := 5) (by omega)
  have g1 := g1 (by omega)
  unfold spec_l01Cur_place.f
  simp only [e, e1, e2, e3, e4, Option.bind_some, if_pos g0, List.length_cons, List.length_nil]
  rw [if_pos (by omega)]
  exact ⟨_, _, _, rfl, s4.up (by omega)⟩
theorem once_ok {s : List Int} (hs : Src s) {n p q a : Int} (h : St n p q) (hn : n ≤ 900000000) (ha : a ≤ 1000000000) : ∃ b p' q', spec_l01Cur_once.f s p q a = some (b, p', q') ∧ St (n + 1) p' q' := by
  obtain ⟨r1, p1, q1, e1, s1, _⟩ := pick_ok hs h (by omega) ha
  unfold spec_l01Cur_once.f
  simp only [e1, Option.bind_some]
  exact ⟨_, _, _, rfl, s1⟩
def CB (R : List S125) : Prop := R.length ≤ 1000 ∧ ∀ c ∈ R, B c.f0 ∧ c.f0.length ≤ 1000
theorem rd125 {R : List S125} {i : Int} (h0 : 0 ≤ i) (h1 : i < (R.length : Int)) : rd_T125 R i ∈ R := by
  unfold rd_T125
  rw [List.getD_eq_getElem?_getD, List.getElem?_eq_getElem (show i.toNat < R.length by omega)]
  exact List.getElem_mem _
theorem ChunkOk_ev {l : List Int} (hB : B l) : ∃ b, Ev (fun k => spec_ChunkOk.f k l) b := by
  unfold spec_ChunkOk.f
  by_cases c : (l.length : Int) ≥ 1
  · by_cases d : (l.length : Int) ≤ 16
    · simp only [if_pos c, if_pos d]
      exact ⟨_, Ev.bind (TextOk_ev hB) (Ev.pure _)⟩
    · simp only [if_pos c, if_neg d]; exact ⟨_, Ev.pure _⟩
  · simp only [if_neg c]; exact ⟨_, Ev.pure _⟩
theorem ChunksOk_ev {R : List S125} (hR : CB R) : ∃ b, Ev (fun k => spec_ChunksOk.f k R) b := by
  have key : ∀ (n : Nat) (s i : Int), 0 ≤ i → (R.length : Int) - i ≤ n → 0 ≤ s → s ≤ 400 → ∃ b, Ev (fun k => spec_ChunksOk.l0 k R s i) b := by
    intro n
    induction n with
    | zero =>
      intro s i h0 hn _ _
      refine ⟨true, Ev.succ ?_⟩
      simp only [spec_ChunksOk.l0, if_neg (show ¬ i < (R.length : Int) by omega)]
      exact Ev.pure _
    | succ n ih =>
      intro s i h0 hn hs hs2
      by_cases c : i < (R.length : Int)
      · have hc := hR.2 _ (rd125 h0 c)
        have hl := hR.1
        obtain ⟨b, hb⟩ := ChunkOk_ev hc.1
        by_cases hb1 : b = true
        · by_cases d : s + (((rd_T125 R i).f0).length : Int) > 400
          · refine ⟨false, Ev.succ ?_⟩
            simp only [spec_ChunksOk.l0, if_pos c, if_pos h0]
            refine Ev.bind hb ?_
            simp only [if_pos hb1, wrap64_id (n := s + (((rd_T125 R i).f0).length : Int)) (by omega) (by omega), if_pos d]
            exact Ev.pure _
          · obtain ⟨b2, h2⟩ := ih (s + (((rd_T125 R i).f0).length : Int)) (i + 1) (by omega) (by omega) (by omega) (by omega)
            refine ⟨b2, Ev.succ ?_⟩
            simp only [spec_ChunksOk.l0, if_pos c, if_pos h0]
            refine Ev.bind hb ?_
            simp only [if_pos hb1, wrap64_id (n := s + (((rd_T125 R i).f0).length : Int)) (by omega) (by omega), if_neg d, wrap64_id (n := i + 1) (by omega) (by omega)]
            exact h2
        · refine ⟨false, Ev.succ ?_⟩
          simp only [spec_ChunksOk.l0, if_pos c, if_pos h0]
          refine Ev.bind hb ?_
          simp only [if_neg hb1]
          exact Ev.pure _
      · refine ⟨true, Ev.succ ?_⟩
        simp only [spec_ChunksOk.l0, if_neg c]
        exact Ev.pure _
  exact key R.length 0 0 (by omega) (by omega) (by omega) (by omega)
theorem RopeText_ev {R : List S125} (hR : CB R) : ∃ t, Ev (fun k => spec_RopeText.f k R) t ∧ B t ∧ (t.length : Int) ≤ 1000000 := by
  obtain ⟨ok, hok⟩ := ChunksOk_ev hR
  have hl := hR.1
  have key : ∀ (n : Nat) (x : List Int) (i : Int), 0 ≤ i → (R.length : Int) - i ≤ n → B x → (x.length : Int) ≤ 1000 * i → i ≤ (R.length : Int) → ∃ t, Ev (fun k => spec_ChunksText.l0 k R x i) t ∧ B t ∧ (t.length : Int) ≤ 1000000 := by
    intro n
    induction n with
    | zero =>
      intro x i h0 hn hx hxl hi
      refine ⟨x, Ev.succ ?_, hx, by omega⟩
      simp only [spec_ChunksText.l0]
      refine Ev.bind hok ?_
      simp only [if_neg (show ¬ i < (R.length : Int) by omega), ite_self]
      exact Ev.pure _
    | succ n ih =>
      intro x i h0 hn hx hxl hi
      by_cases c : ok = true ∧ i < (R.length : Int)
      · have hc := hR.2 _ (rd125 h0 c.2)
        obtain ⟨t, h1, h2, h3⟩ := ih (x ++ (rd_T125 R i).f0) (i + 1) (by omega) (by omega) (hx.app hc.1) (by rw [List.length_append]; omega) (by omega)
        refine ⟨t, Ev.succ ?_, h2, h3⟩
        simp only [spec_ChunksText.l0]
        refine Ev.bind hok ?_
        simp only [if_pos c.1, if_pos c.2, if_pos h0, if_pos (show x.length + ((rd_T125 R i).f0).length < 140737488355328 by omega), wrap64_id (n := i + 1) (by omega) (by omega)]
        exact h1
      · refine ⟨x, Ev.succ ?_, hx, by omega⟩
        simp only [spec_ChunksText.l0]
        refine Ev.bind hok (Ev.ite (fun h1 => Ev.ite (fun h2 => absurd ⟨h1, h2⟩ c) (fun _ => Ev.pure _)) (fun _ => Ev.pure _))
  obtain ⟨t, h1, h2, h3⟩ := key R.length [] 0 (by omega) (by omega) .nil (by simp) (by omega)
  exact ⟨t, Ev.bind h1 (Ev.pure _), h2, h3⟩
theorem ChunksOf_ev {l : List Int} (hB : B l) : ∃ R, Ev (fun k => spec_ChunksOf.f k l) R ∧ CB R := by
  by_cases ht : (l.length : Int) ≤ 400 ∧ Utf l
  · have hl := ht.1
    have key : ∀ (n : Nat) (acc : List S125) (i : Int), 0 ≤ i → i ≤ (l.length : Int) → (l.length : Int) - i ≤ n → (acc.length : Int) ≤ i → (∀ c ∈ acc, B c.f0 ∧ c.f0.length ≤ 1000) → Utf (l.drop i.toNat) →
        ∃ R, Ev (fun k => spec_ChunksOf.l0 k l acc i) R ∧ CB R := by
      intro n
      induction n with
      | zero =>
        intro acc i h0 h1 hn ha hc hu
        refine ⟨acc, Ev.succ ?_, by omega, hc⟩
        simp only [spec_ChunksOf.l0, if_neg (show ¬ i < (l.length : Int) by omega)]
        exact Ev.pure _
      | succ n ih =>
        intro acc i h0 h1 hn ha hc hu
        by_cases c : i < (l.length : Int)
        · have cut : ∀ j, i < j → j ≤ (l.length : Int) → Utf (l.drop j.toNat) → ∃ R, Ev (fun k => spec_ChunksOf.j2 k l acc i j) R ∧ CB R := by
            intro j hj hjl huj
            have e1 : ((l.take j.toNat).drop i.toNat).length ≤ 1000 := by rw [List.length_drop, List.length_take]; omega
            obtain ⟨R, hR, hC⟩ := ih (acc ++ [⟨(l.take j.toNat).drop i.toNat⟩]) j (by omega) hjl (by omega) (by rw [List.length_append]; simp; omega) (fun d hd => by
              rcases List.mem_append.1 hd with h | h
              · exact hc d h
              · simp at h; subst h; exact ⟨(hB.take _).drop _, e1⟩) huj
            refine ⟨R, Ev.succ ?_, hC⟩
            simp only [spec_ChunksOf.j2, Option.bind_some, List.nil_append, List.length_nil, if_pos h0, if_pos (show i ≤ j by omega), if_pos hjl, if_pos (show 0 + ((l.take j.toNat).drop i.toNat).length < 140737488355328 by omega), if_pos (show acc.length < 5864062014805 by omega)]
            exact hR
          have inner : ∀ (m : Nat) (j : Int), i ≤ j → j ≤ (l.length : Int) → (l.length : Int) - j ≤ m → Utf (l.drop j.toNat) → ∃ R, Ev (fun k => spec_ChunksOf.l1 k l acc i j) R ∧ CB R := by
            intro m
            induction m with
            | zero =>
              intro j hj hjl hm huj
              obtain ⟨R, hR, hC⟩ := cut j (by omega) hjl huj
              refine ⟨R, Ev.succ ?_, hC⟩
              simp only [spec_ChunksOf.l1, if_neg (show ¬ j < (l.length : Int) by omega)]
              exact hR
            | succ m ihm =>
              intro j hj hjl hm huj
              by_cases d : j < (l.length : Int)
              · have hne : l.drop j.toNat ≠ [] := by intro e; rw [List.drop_eq_nil_iff] at e; omega
                have ⟨r1, r2⟩ := huj.inv hne
                have er : rsAt l j = (rs (l.drop j.toNat) : Int) := by rw [rsAt_drop (by omega) hjl, rs_eq]
                have hle := rs_le (l.drop j.toNat)
                rw [List.length_drop] at hle
                have hd : (l.drop j.toNat).drop (rs (l.drop j.toNat)) = l.drop (j + (rs (l.drop j.toNat) : Int)).toNat := by rw [List.drop_drop, show (j + (rs (l.drop j.toNat) : Int)).toNat = j.toNat + rs (l.drop j.toNat) by omega]
                rw [hd] at r2
                have hz := RuneSize_ev hB (by omega) (i := j) (by omega)
                rw [er] at hz
                have w1 : wrap64 (j + (rs (l.drop j.toNat) : Int)) = j + (rs (l.drop j.toNat) : Int) := wrap64_id (by omega) (by omega)
                have w2 : wrap64 (j + (rs (l.drop j.toNat) : Int) - i) = j + (rs (l.drop j.toNat) : Int) - i := wrap64_id (by omega) (by omega)
                by_cases e : j + (rs (l.drop j.toNat) : Int) - i ≤ 16
                · obtain ⟨R, hR, hC⟩ := ihm (j + (rs (l.drop j.toNat) : Int)) (by omega) (by omega) (by omega) r2
                  refine ⟨R, Ev.succ ?_, hC⟩
                  simp only [spec_ChunksOf.l1, if_pos d]
                  refine Ev.bind hz ?_
                  simp only [w1, w2, if_pos e]
                  refine Ev.bind hz ?_
                  simp only [w1]
                  exact hR
                · obtain ⟨R, hR, hC⟩ := cut j (by omega) hjl huj
                  refine ⟨R, Ev.succ ?_, hC⟩
                  simp only [spec_ChunksOf.l1, if_pos d]
                  refine Ev.bind hz ?_
                  simp only [w1, w2, if_neg e]
                  exact hR
              · obtain ⟨R, hR, hC⟩ := cut j (by omega) hjl huj
                refine ⟨R, Ev.succ ?_, hC⟩
                simp only [spec_ChunksOf.l1, if_neg d]
                exact hR
          obtain ⟨R, hR, hC⟩ := inner l.length i (by omega) h1 (by omega) hu
          refine ⟨R, Ev.succ ?_, hC⟩
          simp only [spec_ChunksOf.l0, if_pos c]
          exact hR
        · refine ⟨acc, Ev.succ ?_, by omega, hc⟩
          simp only [spec_ChunksOf.l0, if_neg c]
          exact Ev.pure _
    obtain ⟨R, hR, hC⟩ := key l.length [] 0 (by omega) (by omega) (by omega) (by simp) (by simp) (by simpa using ht.2)
    refine ⟨R, ?_, hC⟩
    refine Ev.bind (TextOk_ev hB) ?_
    simp only [ht, and_self, decide_true, if_true]
    exact hR
  · refine ⟨[], ?_, by simp, by simp⟩
    refine Ev.bind (TextOk_ev hB) ?_
    simp only [decide_eq_false ht, Bool.false_eq_true, if_false]
    exact Ev.pure _
theorem RopeOf_ev {l : List Int} (hB : B l) : ∃ R b, Ev (fun k => spec_RopeOf.f k l) (R, b) ∧ CB R := by
  obtain ⟨R, hR, hC⟩ := ChunksOf_ev hB
  by_cases ht : (l.length : Int) ≤ 400 ∧ Utf l
  · refine ⟨R, true, Ev.bind (TextOk_ev hB) ?_, hC⟩
    simp only [ht, and_self, decide_true, if_true]
    exact Ev.bind hR (Ev.pure _)
  · refine ⟨[], false, Ev.bind (TextOk_ev hB) ?_, by simp [CB]⟩
    simp only [decide_eq_false ht, Bool.false_eq_true, if_false]
    exact Ev.pure _
theorem cutOf_ok {s : List Int} (hs : Src s) {n p q : Int} (h : St n p q) (hn : n ≤ 700000000) {R : List S125} (hR : CB R) : ∃ r p' q', Ev (fun k => spec_l01Cur_cutOf.f k s p q R) (r, p', q') ∧ St (n + 6) p' q' := by
  obtain ⟨t, ht, hB, hl⟩ := RopeText_ev hR
  obtain ⟨C, hC, _, _, _, hCl⟩ := l01Cuts_ev hB
  have place : ∀ m p q, St m p q → m ≤ n + 1 → ∃ r p' q', Ev (fun k => spec_l01Cur_cutOf.j0 k C false s p q R) (r, p', q') ∧ St (n + 6) p' q' := by
    intro m p q hS hm
    have mm : 0 ≤ mn 200 (t.length : Int) ∧ mn 200 (t.length : Int) ≤ 200 := by unfold mn; split <;> omega
    obtain ⟨r, p', q', e1, s1⟩ := place_ok hs hS (by omega) mm.1 (by omega)
    refine ⟨r, p', q', Ev.succ ?_, s1.up (by omega)⟩
    simp only [spec_l01Cur_cutOf.j0, Bool.false_eq_true, if_false]
    refine Ev.bind ht ?_
    simp only [e1, Option.bind_some]
    exact Ev.pure _
  by_cases c : (C.length : Int) > 0
  · obtain ⟨b, p1, q1, e1, s1⟩ := once_ok hs h (by omega) (a := 9) (by omega)
    cases b with
    | true =>
      obtain ⟨r, p', q', h1, h2⟩ := place _ p1 q1 s1 (by omega)
      refine ⟨r, p', q', Ev.bind ht (Ev.bind hC ?_), h2⟩
      simp only [if_pos c, e1, Option.bind_some, Bool.not_true]
      exact h1
    | false =>
      have mm : mn 256 (C.length : Int) ≤ 256 ∧ mn 256 (C.length : Int) ≤ (C.length : Int) ∧ 1 ≤ mn 256 (C.length : Int) := by unfold mn; split <;> omega
      obtain ⟨r, p2, q2, e2, s2, g0, g1, g2⟩ := pick_ok hs s1 (by omega) (a := mn 256 (C.length : Int)) (by omega)
      have g3 : r < (C.length : Int) := by
        by_cases d : 2 ≤ mn 256 (C.length : Int)
        · have := g1 d; omega
        · have := g2 (by omega); omega
      refine ⟨rd C r, p2, q2, Ev.bind ht (Ev.bind hC ?_), s2.up (by omega)⟩
      simp only [if_pos c, e1, Option.bind_some, Bool.not_false]
      apply Ev.succ
      simp only [spec_l01Cur_cutOf.j0, if_true, e2, Option.bind_some, if_pos g0, if_pos g3]
      exact Ev.pure _
  · obtain ⟨r, p', q', h1, h2⟩ := place n p q h (by omega)
    refine ⟨r, p', q', Ev.bind ht (Ev.bind hC ?_), h2⟩
    simp only [if_neg c]
    exact h1
theorem span_ok {s : List Int} (hs : Src s) {n p q : Int} (h : St n p q) (hn : n ≤ 600000000) {R : List S125} (hR : CB R) : ∃ a b p' q', Ev (fun k => spec_l01Cur_span.f k s p q R) (a, b, p', q') ∧ St (n + 13) p' q' := by
  obtain ⟨a, p1, q1, e1, s1⟩ := cutOf_ok hs h (by omega) hR
  obtain ⟨b, p2, q2, e2, s2⟩ := cutOf_ok hs s1 (by omega) hR
  by_cases c : a > b
  · obtain ⟨f, p3, q3, e3, s3⟩ := once_ok hs s2 (by omega) (a := 9) (by omega)
    cases f with
    | true =>
      refine ⟨a, b, p3, q3, Ev.bind e1 (Ev.bind e2 ?_), s3.up (by omega)⟩
      simp only [if_pos c, e3, Option.bind_some]
      apply Ev.succ
      simp only [spec_l01Cur_span.j0, Bool.not_true, Bool.false_eq_true, if_false]
      exact Ev.pure _
    | false =>
      refine ⟨b, a, p3, q3, Ev.bind e1 (Ev.bind e2 ?_), s3.up (by omega)⟩
      simp only [if_pos c, e3, Option.bind_some]
      apply Ev.succ
      simp only [spec_l01Cur_span.j0, Bool.not_false, if_true]
      exact Ev.pure _
  · refine ⟨a, b, p2, q2, Ev.bind e1 (Ev.bind e2 ?_), s2.up (by omega)⟩
    simp only [if_neg c]
    apply Ev.succ
    simp only [spec_l01Cur_span.j0, Bool.false_eq_true, if_false]
    exact Ev.pure _
theorem text6_ok {s : List Int} (hs : Src s) {n p q : Int} (h : St n p q) (hn : n ≤ 800000000) :
    ∃ y p' q', Ev (fun k => spec_l01Cur_text.f k s p q 6) (y, p', q') ∧ St (n + 19) p' q' ∧ B y ∧ (y.length : Int) ≤ 6 := by
  obtain ⟨y, p', q', h1, h2, h3, h4⟩ := text_ok hs h hn (a := 6) (by omega)
  exact ⟨y, p', q', h1, h2.up (by omega), h3, h4⟩
theorem text40_ok {s : List Int} (hs : Src s) {n p q : Int} (h : St n p q) (hn : n ≤ 800000000) :
    ∃ y p' q', Ev (fun k => spec_l01Cur_text.f k s p q 40) (y, p', q') ∧ St (n + 121) p' q' ∧ B y ∧ (y.length : Int) ≤ 40 := by
  obtain ⟨y, p', q', h1, h2, h3, h4⟩ := text_ok hs h hn (a := 40) (by omega)
  exact ⟨y, p', q', h1, h2.up (by omega), h3, h4⟩
theorem edit_put {s : List Int} (hs : Src s) {m p q : Int} (a c : Int) (hS : St m p q) (hm : m ≤ 600000000) : ∃ t p' q', Ev (fun k => spec_l01Cur_edit.j1 k s p q a c) (a, c, t, p', q') ∧ St (m + 20) p' q' ∧ B t ∧ (t.length : Int) ≤ 6 := by
  obtain ⟨f, p3, q3, e3, s3⟩ := once_ok hs hS (by omega) (a := 3) (by omega)
  cases f with
  | true =>
    refine ⟨[], p3, q3, Ev.succ ?_, s3.up (by omega), .nil, by simp⟩
    simp only [spec_l01Cur_edit.j1, e3, Option.bind_some, if_true]
    exact Ev.pure _
  | false =>
    obtain ⟨t, p4, q4, e4, s4, h4, h5⟩ := text6_ok hs s3 (by omega)
    refine ⟨t, p4, q4, Ev.succ ?_, s4.up (by omega), h4, h5⟩
    simp only [spec_l01Cur_edit.j1]
    refine Ev.bind (Ev.const e3) (Ev.ite (fun h => absurd h Bool.false_ne_true) (fun _ => ?_))
    exact Ev.bind e4 (Ev.pure _)
theorem edit_mid {s : List Int} (hs : Src s) {R : List S125} (hC : CB R) {m p q : Int} (x y : Int) (g : Bool) (hS : St m p q) (hm : m ≤ 500000000) : ∃ a c t p' q', Ev (fun k => spec_l01Cur_edit.j0 k x y g s p q R x (wrap64 (y - x))) (a, c, t, p', q') ∧ St (m + 30) p' q' ∧ B t ∧ (t.length : Int) ≤ 6 := by
  cases g with
  | true =>
    obtain ⟨r, p3, q3, e3, s3⟩ := cutOf_ok hs hS (by omega) hC
    by_cases d : wrap64 (r - x) < 0
    · obtain ⟨t, p', q', h1, h2, h3⟩ := edit_put hs x (wrap64 (y - x)) s3 (by omega)
      refine ⟨x, wrap64 (y - x), t, p', q', Ev.succ ?_, h2.up (by omega), h3⟩
      simp only [spec_l01Cur_edit.j0, if_true]
      refine Ev.bind e3 ?_
      simp only [if_pos d]
      exact h1
    · obtain ⟨t, p', q', h1, h2, h3⟩ := edit_put hs x (wrap64 (r - x)) s3 (by omega)
      refine ⟨x, wrap64 (r - x), t, p', q', Ev.succ ?_, h2.up (by omega), h3⟩
      simp only [spec_l01Cur_edit.j0, if_true]
      refine Ev.bind e3 ?_
      simp only [if_neg d]
      exact h1
  | false =>
    obtain ⟨t, p', q', h1, h2, h3⟩ := edit_put hs x (wrap64 (y - x)) hS (by omega)
    refine ⟨x, wrap64 (y - x), t, p', q', Ev.succ ?_, h2.up (by omega), h3⟩
    simp only [spec_l01Cur_edit.j0, Bool.false_eq_true, if_false]
    exact h1
theorem edit_ok {s : List Int} (hs : Src s) {n p q : Int} (h : St n p q) (hn : n ≤ 400000000) {l : List Int} (hB : B l) : ∃ a c m p' q', Ev (fun k => spec_l01Cur_edit.f k s p q l) (a, c, m, p', q') ∧ St (n + 50) p' q' ∧ B m ∧ (m.length : Int) ≤ 6 := by
  obtain ⟨R, b, hR, hC⟩ := RopeOf_ev hB
  obtain ⟨x, y, p1, q1, e1, s1⟩ := span_ok hs h (by omega) hC
  obtain ⟨f, p2, q2, e2, s2⟩ := once_ok hs s1 (by omega) (a := 2) (by omega)
  by_cases hf : f = true
  · obtain ⟨t, p', q', h1, h2, h3⟩ := edit_put hs x 0 s2 (by omega)
    refine ⟨x, 0, t, p', q', Ev.bind hR (Ev.bind e1 ?_), h2.up (by omega), h3⟩
    simp only [e2, Option.bind_some, if_pos hf]
    exact h1
  · by_cases d : wrap64 (y - x) > 6
    · obtain ⟨g, p3, q3, e3, s3⟩ := once_ok hs s2 (by omega) (a := 2) (by omega)
      obtain ⟨a, c, t, p', q', h1, h2, h3⟩ := edit_mid hs hC x y g s3 (by omega)
      refine ⟨a, c, t, p', q', Ev.bind hR (Ev.bind e1 ?_), h2.up (by omega), h3⟩
      simp only [e2, Option.bind_some, if_neg hf, if_pos d, e3]
      exact h1
    · obtain ⟨a, c, t, p', q', h1, h2, h3⟩ := edit_mid hs hC x y false s2 (by omega)
      refine ⟨a, c, t, p', q', Ev.bind hR (Ev.bind e1 ?_), h2.up (by omega), h3⟩
      simp only [e2, Option.bind_some, if_neg hf, if_neg d]
      exact h1
theorem open_st {s : List Int} (hs : Src s) : St 0 0 (97 + (s.length : Int) % 1000) := ⟨by omega, by omega, by omega, by omega⟩
theorem DrawEditJoin_ok {s : List Int} (hs : Src s) : ∃ a c m a' c' m', Ev (fun k => spec_DrawEditJoin.f k s) (a, c, m, a', c', m') ∧ B m ∧ B m' := by
  obtain ⟨t, p1, q1, e1, s1, b1, _⟩ := text40_ok hs (open_st hs) (by omega)
  obtain ⟨a, c, m, p2, q2, e2, s2, b2, _⟩ := edit_ok hs s1 (by omega) b1
  obtain ⟨a', c', m', p3, q3, e3, s3, b3, _⟩ := edit_ok hs s2 (by omega) b2
  obtain ⟨r, p4, q4, e4, s4, _⟩ := pick_ok hs s3 (by omega) (a := 9) (by omega)
  have key : ∀ {v}, Ev (fun k => (if r = 0 then ((spec_l01Cur_edit.f k s p4 q4 t).bind fun b => (some (a, c, m, b.1, b.2.1, b.2.2.1))) else (if r = 1 then ((spec_l01Cur_raw.f s p4 q4).bind fun b => (some (a, b.1, m, wrap64 (a' + a), c', m'))) else (if r = 2 then ((spec_l01Cur_pick.f s p4 q4 9).bind fun x => ((spec_l01Cur_pick.f s x.2.1 x.2.2 9).bind fun y => (if 0 ≤ (wrap64 ((wrap64 (400 - x.1)) + y.1)) then (if (wrap64 ((wrap64 (400 - x.1)) + y.1) : Int).toNat ≤ 281474976710656 then (some (a, c, m, wrap64 (a' + a), c', (List.replicate (wrap64 ((wrap64 (400 - x.1)) + y.1) : Int).toNat 0))) else (none)) else (none)))) else (some (a, c, m, wrap64 (a' + a), c', m')))))) v → Ev (fun k => spec_DrawEditJoin.f k s) v := by
    intro v h
    simp only [spec_DrawEditJoin.f]
    exact Ev.bind (Ev.const (v := (s, 0, 97 + (s.length : Int) % 1000)) rfl) (Ev.bind e1 (Ev.bind e2 (Ev.bind e3 (Ev.bind (Ev.const e4) h))))
  by_cases c0 : r = 0
  · obtain ⟨x, y, z, p5, q5, e5, s5, b5, _⟩ := edit_ok hs s4 (by omega) b1
    exact ⟨a, c, m, x, y, z, key (Ev.ite (fun _ => Ev.bind e5 (Ev.pure _)) (fun h => absurd c0 h)), b2, b5⟩
  by_cases c1 : r = 1
  · obtain ⟨x, p5, q5, e5, s5⟩ := raw_ok hs s4 (by omega)
    exact ⟨a, x, m, wrap64 (a' + a), c', m', key (Ev.ite (fun h => absurd h c0) (fun _ => Ev.ite (fun _ => Ev.bind (Ev.const e5) (Ev.pure _)) (fun h => absurd c1 h))), b2, b3⟩
  by_cases c2 : r = 2
  · obtain ⟨x, p5, q5, e5, s5, x0, x1, _⟩ := pick_ok hs s4 (by omega) (a := 9) (by omega)
    obtain ⟨y, p6, q6, e6, s6, y0, y1, _⟩ := pick_ok hs s5 (by omega) (a := 9) (by omega)
    have x1 := x1 (by omega)
    have y1 := y1 (by omega)
    have w : wrap64 (wrap64 (400 - x) + y) = 400 - x + y := by rw [wrap64_id (n := 400 - x) (by omega) (by omega), wrap64_id (by omega) (by omega)]
    refine ⟨a, c, m, wrap64 (a' + a), c', List.replicate (400 - x + y).toNat 0, key (Ev.ite (fun h => absurd h c0) (fun _ => Ev.ite (fun h => absurd h c1) (fun _ => Ev.ite (fun _ => Ev.bind (Ev.const e5) (Ev.bind (Ev.const e6) ?_)) (fun h => absurd c2 h)))), b2, ?_⟩
    · simp only [w]
      exact Ev.ite (fun _ => Ev.ite (fun _ => Ev.pure _) (fun h => absurd (by omega) h)) (fun h => absurd (by omega) h)
    · intro z hz
      have := List.eq_of_mem_replicate hz
      omega
  · exact ⟨a, c, m, wrap64 (a' + a), c', m', key (Ev.ite (fun h => absurd h c0) (fun _ => Ev.ite (fun h => absurd h c1) (fun _ => Ev.ite (fun h => absurd h c2) (fun _ => Ev.pure _)))), b2, b3⟩
def Sm (a c : Int) (m : List Int) : Prop := (0 ≤ a ∧ a ≤ 400) ∧ (0 ≤ c ∧ c ≤ 400) ∧ (m.length : Int) ≤ 400
theorem l02Small_eq (a : Int) : spec_l02Small.f a = some (decide (0 ≤ a ∧ a ≤ 400)) := by
  unfold spec_l02Small.f
  by_cases h1 : a ≥ 0
  · rw [if_pos h1]; congr 1; exact decide_eq_decide.2 ⟨fun h => ⟨h1, h⟩, fun h => h.2⟩
  · rw [if_neg h1]; congr 1; rw [eq_comm, decide_eq_false_iff_not]; intro h; exact h1 h.1
theorem small3 (a c : Int) (m : List Int) : ((some (decide (0 ≤ a ∧ a ≤ 400))).bind fun t => (if t = true then ((some (decide (0 ≤ c ∧ c ≤ 400))).bind fun u => (if u = true then (some (decide ((m.length : Int) ≤ 400))) else (some false))) else (some false))) = some (decide (Sm a c m)) := by
  unfold Sm
  by_cases h1 : 0 ≤ a ∧ a ≤ 400
  · by_cases h2 : 0 ≤ c ∧ c ≤ 400
    · simp [h1, h2]
    · simp only [decide_eq_false h2, decide_eq_true h1, Option.bind_some, if_true, Bool.false_eq_true, if_false]; congr 1; rw [eq_comm, decide_eq_false_iff_not]; intro h; exact h2 h.2.1
  · simp only [decide_eq_false h1, Option.bind_some, Bool.false_eq_true, if_false]; congr 1; rw [eq_comm, decide_eq_false_iff_not]; intro h; exact h1 h.1
theorem l05Small_eq (a c : Int) (m : List Int) : spec_l05Small.f a c m = some (decide (Sm a c m)) := by
  unfold spec_l05Small.f
  rw [l02Small_eq, l02Small_eq]
  exact small3 a c m
theorem isSmall_eq (a c : Int) (m : List Int) : impl_Edit_isSmall.f a c m = some (decide (Sm a c m)) := by
  unfold impl_Edit_isSmall.f
  rw [in_eq, in_eq]
  exact small3 a c m
def jtext (a : Int) (m : List Int) (a' c' : Int) (m' : List Int) : List Int := m.take (a' - a).toNat ++ m' ++ m.drop (a' - a + c').toNat
def JOk (a c : Int) (m : List Int) (a' c' : Int) (m' : List Int) : Prop := Sm a c m ∧ Sm a' c' m' ∧ a ≤ a' ∧ a' + c' ≤ a + (m.length : Int) ∧ ((jtext a m a' c' m').length : Int) ≤ 400
noncomputable def join (a c : Int) (m : List Int) (a' c' : Int) (m' : List Int) : Int × Int × List Int × Bool := if JOk a c m a' c' m' then (a, c, jtext a m a' c' m', true) else (0, 0, [], false)
theorem sJoin_ev (a c : Int) (m : List Int) (a' c' : Int) (m' : List Int) : Ev (fun k => spec_EditJoin.f k a c m a' c' m') (join a c m a' c' m') := by
  have no : ¬ JOk a c m a' c' m' → ∀ v, v = true → Ev (fun k => spec_EditJoin.j0 k v a c m a' c' m') (join a c m a' c' m') := by
    intro h v hv
    subst hv
    apply Ev.succ
    simp only [spec_EditJoin.j0]
    refine Ev.ite (fun _ => (Ev.pure _).eq ?_) (fun h => (h (by first | rfl | trivial)).elim)
    unfold join; rw [if_neg h]
  refine Ev.bind (Ev.const (l05Small_eq a c m)) (Ev.ite (fun h1 => ?_) (fun h1 => no (fun j => h1 (by simpa using j.1)) _ rfl))
  refine Ev.bind (Ev.const (l05Small_eq a' c' m')) (Ev.ite (fun h2 => ?_) (fun h2 => no (fun j => h2 (by simpa using j.2.1)) _ rfl))
  simp only [decide_eq_true_eq] at h1 h2
  obtain ⟨h11, h12, h13⟩ := id h1
  obtain ⟨h21, h22, h23⟩ := id h2
  refine Ev.ite (fun h3 => no (fun j => by have := j.2.2.1; omega) _ rfl) (fun h3 => ?_)
  rw [wrap64_id (n := a' + c') (by omega) (by omega), wrap64_id (n := a + (m.length : Int)) (by omega) (by omega)]
  by_cases h4 : a' + c' > a + (m.length : Int)
  · exact no (fun j => by have := j.2.2.2.1; omega) _ (by simpa using h4)
  apply Ev.succ
  simp only [spec_EditJoin.j0]
  refine Ev.ite (fun h => absurd (by simpa using h) h4) (fun _ => ?_)
  refine Ev.bind (Ev.pure ([] : List Int)) ?_
  rw [wrap64_id (n := a' - a) (by omega) (by omega), wrap64_id (n := a' - a + c') (by omega) (by omega)]
  have e1 : (m.take (a' - a).toNat).length ≤ 400 := by rw [List.length_take]; omega
  have e2 : (m.drop (a' - a + c').toNat).length ≤ 400 := by rw [List.length_drop]; omega
  refine Ev.ite (fun _ => Ev.ite (fun _ => Ev.ite (fun _ => Ev.bind (Ev.pure _) (Ev.ite (fun _ => Ev.bind (Ev.pure _) (Ev.ite (fun _ => Ev.ite (fun _ => Ev.ite (fun _ => Ev.bind (Ev.pure _) ?_) (fun h => absurd ?_ h)) (fun h => absurd (by omega) h)) (fun h => absurd (by omega) h))) (fun h => absurd ?_ h))) (fun h => absurd ?_ h)) (fun h => absurd (by omega) h)) (fun h => absurd (by omega) h)
  · unfold join
    have ej : [] ++ m.take (a' - a).toNat ++ m' ++ m.drop (a' - a + c').toNat = jtext a m a' c' m' := by unfold jtext; simp
    rw [ej]
    refine Ev.ite (fun h => (Ev.pure _).eq ?_) (fun h => (Ev.pure _).eq ?_)
    · rw [if_neg (fun j => by have := j.2.2.2.2; omega)]
    · rw [if_pos ⟨h1, h2, by omega, by omega, by omega⟩]
  · simp only [List.nil_append, List.length_append]; omega
  · simp only [List.nil_append]; omega
  · simp only [List.length_nil]; omega
theorem iJoin_ev (a c : Int) (m : List Int) (a' c' : Int) (m' : List Int) : Ev (fun k => impl_EditJoin.f k a c m a' c' m') (join a c m a' c' m') := by
  have no : ¬ JOk a c m a' c' m' → ∀ v, v = true → Ev (fun k => impl_EditJoin.j0 k v a c m a' c' m') (join a c m a' c' m') := by
    intro h v hv
    subst hv
    apply Ev.succ
    simp only [impl_EditJoin.j0]
    refine Ev.ite (fun _ => (Ev.pure _).eq ?_) (fun h => (h (by first | rfl | trivial)).elim)
    unfold join; rw [if_neg h]
  refine Ev.bind (Ev.const (isSmall_eq a c m)) (Ev.ite (fun h1 => ?_) (fun h1 => no (fun j => h1 (by simpa using j.1)) _ rfl))
  refine Ev.bind (Ev.const (isSmall_eq a' c' m')) (Ev.ite (fun h2 => ?_) (fun h2 => no (fun j => h2 (by simpa using j.2.1)) _ rfl))
  simp only [decide_eq_true_eq] at h1 h2
  obtain ⟨h11, h12, h13⟩ := id h1
  obtain ⟨h21, h22, h23⟩ := id h2
  refine Ev.ite (fun h3 => no (fun j => by have := j.2.2.1; omega) _ rfl) (fun h3 => ?_)
  rw [wrap64_id (n := a' + c') (by omega) (by omega), wrap64_id (n := a + (m.length : Int)) (by omega) (by omega)]
  by_cases h4 : a' + c' > a + (m.length : Int)
  · exact no (fun j => by have := j.2.2.2.1; omega) _ (by simpa using h4)
  apply Ev.succ
  simp only [impl_EditJoin.j0]
  refine Ev.ite (fun h => absurd (by simpa using h) h4) (fun _ => ?_)
  rw [wrap64_id (n := a' - a) (by omega) (by omega)]
  refine Ev.bind (Edit_do_ev (by omega) (by omega) (by omega) (by omega) (by omega) (by omega)) ?_
  have ej : m.take (a' - a).toNat ++ m' ++ m.drop (a' - a + c').toNat = jtext a m a' c' m' := rfl
  rw [ej]
  unfold join
  refine Ev.ite (fun h => (Ev.pure _).eq ?_) (fun h => (Ev.pure _).eq ?_)
  · rw [if_neg (fun j => by have := j.2.2.2.2; omega)]
  · rw [if_pos ⟨h1, h2, by omega, by omega, by omega⟩]
theorem sameEdit_ev (a c : Int) (m : List Int) : Ev (fun k => laws_sameEdit.f k a c m a c m) true := by
  unfold laws_sameEdit.f
  simp only [if_true]
  apply Ev.succ
  simp only [laws_sameEdit.j0]
  exact (Ev.pure _).eq (by simp)
theorem both_do {t m m' : List Int} {a c a' c' : Int} (h1 : EOk t a c m) (h2 : EOk (t.take a.toNat ++ m ++ t.drop (a + c).toNat) a' c' m') (hj : JOk a c m a' c' m') :
    EOk t a c (jtext a m a' c' m') ∧ t.take a.toNat ++ jtext a m a' c' m' ++ t.drop (a + c).toNat = (t.take a.toNat ++ m ++ t.drop (a + c).toNat).take a'.toNat ++ m' ++ (t.take a.toNat ++ m ++ t.drop (a + c).toNat).drop (a' + c').toNat := by
  obtain ⟨t1, t2, t3, t4, t5, t6, t7, t8⟩ := h1
  obtain ⟨u1, u2, u3, u4, u5, u6, u7, u8⟩ := h2
  obtain ⟨_, _, j1, j2, j3⟩ := hj
  have r := t2.range
  have r5 := t5.range
  have lx : (t.take a.toNat).length = a.toNat := by rw [List.length_take]; omega
  have lz : (t.drop (a + c).toNat).length = t.length - (a + c).toNat := List.length_drop
  obtain ⟨x, hx⟩ : ∃ x, t.take a.toNat = x := ⟨_, rfl⟩
  obtain ⟨z, hz⟩ : ∃ z, t.drop (a + c).toNat = z := ⟨_, rfl⟩
  have ux : Utf x := hx ▸ t2.take.1
  have uz : Utf z := hz ▸ t5.take.2
  rw [hx] at lx
  rw [hz] at lz
  rw [hx, hz] at u1 u2 u4 u5 u8
  rw [hx, hz]
  have cut : ∀ p : Int, a ≤ p → p ≤ a + (m.length : Int) → (x ++ m ++ z).take p.toNat = x ++ m.take (p - a).toNat ∧ (x ++ m ++ z).drop p.toNat = m.drop (p - a).toNat ++ z := by
    intro p h1 h2
    have e : p.toNat = x.length + (p - a).toNat := by omega
    constructor
    · rw [List.append_assoc, e, List.take_length_add_append, List.take_append_of_le_length (by omega)]
    · rw [List.append_assoc, e, List.drop_length_add_append, List.drop_append_of_le_length (by omega)]
  have p1 := cut a' j1 (by omega)
  have p2 := cut (a' + c') (by omega) j2
  have m1 : Utf (m.take (a' - a).toNat) := ux.cancel (p1.1 ▸ u2.take.1)
  have m2 : Utf (m.drop (a' + c' - a).toNat) := by
    have w : Utf (x ++ m.take (a' + c' - a).toNat) := p2.1 ▸ u5.take.1
    exact (ux.cancel w).cancel (by rw [List.take_append_drop]; exact t7)
  have ej : jtext a m a' c' m' = m.take (a' - a).toNat ++ m' ++ m.drop (a' + c' - a).toNat := by unfold jtext; rw [show a' - a + c' = a' + c' - a by omega]
  constructor
  · refine ⟨t1, t2, t3, t4, t5, j3, ?_, ?_⟩
    · rw [ej]; exact (m1.app u7).app m2
    · rw [ej]
      simp only [List.length_append, List.length_take, List.length_drop] at u8 ⊢
      omega
  · rw [p1.1, p2.2, ej]
    simp only [List.append_assoc]
theorem edo_B {l m : List Int} (hl : B l) (hm : B m) (a c : Int) : B (edo l a c m).1 := by
  unfold edo
  split
  · exact ((hl.take _).app hm).app (hl.drop _)
  · exact .nil
theorem law_end {t m m' : List Int} (ht : B t) (hm : B m) (hm' : B m') {a c a' c' : Int} (hj : JOk a c m a' c' m') (hjB : B (jtext a m a' c' m')) :
    Ev (fun k => ((spec_EditDo.f k t a c m).bind fun x => ((spec_EditDo.f k x.1 a' c' m').bind fun y => ((impl_EditDo.f k t a c (jtext a m a' c' m')).bind fun z => (if x.2 = true then (if y.2 = true then (if z.2 = true then (laws_FnEditJoin.j2 k ((strOfNums y.1).toList == (strOfNums z.1).toList)) else (laws_FnEditJoin.j2 k false)) else (laws_FnEditJoin.j2 k true)) else (laws_FnEditJoin.j2 k true)))))) true := by
  have yes : ∀ v, v = true → Ev (fun k => laws_FnEditJoin.j2 k v) true := by
    intro v hv
    subst hv
    apply Ev.succ
    simp only [laws_FnEditJoin.j2]
    exact Ev.pure _
  have bx := edo_B ht hm a c
  refine Ev.bind (EditDo_ev ht hm a c) (Ev.bind (EditDo_ev bx hm' a' c') (Ev.bind (impl_EditDo_ev ht hjB a c) ?_))
  refine Ev.ite (fun h1 => Ev.ite (fun h2 => ?_) (fun _ => yes _ rfl)) (fun _ => yes _ rfl)
  have k1 : EOk t a c m := by
    by_cases h : EOk t a c m
    · exact h
    · unfold edo at h1; rw [if_neg h] at h1; cases h1
  have e1 : edo t a c m = (t.take a.toNat ++ m ++ t.drop (a + c).toNat, true) := by unfold edo; rw [if_pos k1]
  rw [e1] at h2 bx
  simp only at h2 bx
  have k2 : EOk (t.take a.toNat ++ m ++ t.drop (a + c).toNat) a' c' m' := by
    by_cases h : EOk (t.take a.toNat ++ m ++ t.drop (a + c).toNat) a' c' m'
    · exact h
    · unfold edo at h2; rw [if_neg h] at h2; cases h2
  have ⟨k3, k4⟩ := both_do k1 k2 hj
  have e2 : edo (t.take a.toNat ++ m ++ t.drop (a + c).toNat) a' c' m' = ((t.take a.toNat ++ m ++ t.drop (a + c).toNat).take a'.toNat ++ m' ++ (t.take a.toNat ++ m ++ t.drop (a + c).toNat).drop (a' + c').toNat, true) := by unfold edo; rw [if_pos k2]
  have e3 : edo t a c (jtext a m a' c' m') = (t.take a.toNat ++ jtext a m a' c' m' ++ t.drop (a + c).toNat, true) := by unfold edo; rw [if_pos k3]
  rw [e1]
  simp only
  rw [e2, e3]
  refine Ev.ite (fun _ => yes _ ?_) (fun h => (h (by first | rfl | trivial)).elim)
  rw [k4]
  simp
theorem law_loop {m m' : List Int} (hm : B m) (hm' : B m') {a c a' c' : Int} (hj : JOk a c m a' c' m') (hjB : B (jtext a m a' c' m')) : ∀ (n : Nat) (t : List Int) (i : Int), B t → (t.length : Int) ≤ 1000000 → 0 ≤ i → (t.length : Int) - i ≤ n →
    Ev (fun k => laws_FnEditJoin.l0 k t i a c m a' c' m' a c (jtext a m a' c' m')) true := by
  intro n
  induction n with
  | zero =>
    intro t i ht hl h0 hn
    apply Ev.succ
    simp only [laws_FnEditJoin.l0]
    exact Ev.ite (fun h => absurd h (by omega)) (fun _ => law_end ht hm hm' hj hjB)
  | succ n ih =>
    intro t i ht hl h0 hn
    apply Ev.succ
    simp only [laws_FnEditJoin.l0]
    refine Ev.ite (fun h => Ev.ite (fun _ => ?_) (fun h => absurd h0 h)) (fun _ => law_end ht hm hm' hj hjB)
    rw [wrap64_id (n := i + 1) (by omega) (by omega)]
    refine ih _ _ (fun x hx => ?_) (by rw [List.length_set]; exact hl) (by omega) (by rw [List.length_set]; omega)
    rcases List.mem_or_eq_of_mem_set hx with h | rfl
    · exact ht x h
    · have h1 := Int.emod_nonneg (wrap64 (97 + Int.tmod i 26)) (show (256 : Int) ≠ 0 by omega)
      have h2 := Int.emod_lt_of_pos (wrap64 (97 + Int.tmod i 26)) (show (0 : Int) < 256 by omega)
      omega
theorem lpick_ev {s : List Int} (hB : B s) (hl : (s.length : Int) ≤ 1048576) : ∃ r, Ev (fun k => laws_pick.f k s 3 9) r ∧ 0 ≤ r ∧ r < 9 := by
  by_cases c : (s.length : Int) = 0
  · refine ⟨0, ?_, by omega, by omega⟩
    simp only [laws_pick.f]
    refine Ev.ite (fun _ => Ev.succ ?_) (fun h => absurd c h)
    simp only [laws_pick.j0]
    exact Ev.ite (fun _ => Ev.pure _) (fun h => (h (by first | rfl | trivial)).elim)
  have key : ∀ (n : Nat) (x i : Int), 0 ≤ i → i ≤ 3 → 3 - i ≤ n → 0 ≤ x → x ≤ (31 ^ i.toNat) * 300 - 300 → ∃ r, Ev (fun k => laws_pick.l0 k s 3 9 x i) r ∧ 0 ≤ r ∧ r < 9 := by
    intro n
    have fin : ∀ x i : Int, ¬ i < 3 → 0 ≤ x → x ≤ 100000000 → ∃ r, Ev (fun k => laws_pick.l0 k s 3 9 x i) r ∧ 0 ≤ r ∧ r < 9 := by
      intro x i hi h0 h1
      have e : wrap64 (x + 3) = x + 3 := wrap64_id (by omega) (by omega)
      refine ⟨(x + 3) % 9, Ev.succ ?_, by omega, by omega⟩
      simp only [laws_pick.l0]
      refine Ev.ite (fun h => absurd h hi) (fun _ => Ev.ite (fun h => by omega) (fun _ => (Ev.pure _).eq ?_))
      rw [e, tmod_nn (by omega)]
    induction n with
    | zero =>
      intro x i h0 h3 hn hx hx2
      have : i = 3 := by omega
      subst this
      exact fin x 3 (by omega) hx (by simpa using Int.le_trans hx2 (by decide))
    | succ n ih =>
      intro x i h0 h3 hn hx hx2
      by_cases d : i < 3
      · have b := hB.rd (Int.tmod (wrap64 (3 + i)) (s.length : Int))
        have e0 : wrap64 (3 + i) = 3 + i := wrap64_id (by omega) (by omega)
        have hp : (31 : Int) ^ (i + 1).toNat = 31 * 31 ^ i.toNat := by rw [show (i + 1).toNat = i.toNat + 1 by omega, Int.pow_succ]; omega
        have hp1 : (1 : Int) ≤ 31 ^ i.toNat ∧ (31 : Int) ^ i.toNat ≤ 961 := by
          have : i.toNat = 0 ∨ i.toNat = 1 ∨ i.toNat = 2 := by omega
          rcases this with h | h | h <;> rw [h] <;> decide
        have w1 : wrap64 (31 * x) = 31 * x := wrap64_id (by omega) (by omega)
        have w2 : wrap64 (rd s (Int.tmod (wrap64 (3 + i)) (s.length : Int))) = rd s (Int.tmod (wrap64 (3 + i)) (s.length : Int)) := wrap64_id (by omega) (by omega)
        have w3 : wrap64 (31 * x + rd s (Int.tmod (wrap64 (3 + i)) (s.length : Int))) = 31 * x + rd s (Int.tmod (wrap64 (3 + i)) (s.length : Int)) := wrap64_id (by omega) (by omega)
        obtain ⟨r, hr, r0, r1⟩ := ih (31 * x + rd s (Int.tmod (wrap64 (3 + i)) (s.length : Int))) (i + 1) (by omega) (by omega) (by omega) (by omega) (by rw [hp]; omega)
        refine ⟨r, Ev.succ ?_, r0, r1⟩
        simp only [laws_pick.l0]
        refine Ev.ite (fun _ => Ev.ite (fun h => absurd h c) (fun _ => Ev.ite (fun _ => Ev.ite (fun _ => ?_) (fun h => absurd ?_ h)) (fun h => absurd ?_ h))) (fun h => absurd d h)
        · rw [w1, w2, w3, wrap64_id (n := i + 1) (by omega) (by omega)]
          exact hr
        · rw [e0, tmod_nn (by omega)]; exact Int.emod_lt_of_pos _ (by omega)
        · rw [e0, tmod_nn (by omega)]; exact Int.emod_nonneg _ c
      · have : i = 3 := by omega
        subst this
        exact fin x 3 (by omega) hx (by simpa using Int.le_trans hx2 (by decide))
  obtain ⟨r, hr, r0, r1⟩ := key 3 0 0 (by omega) (by omega) (by omega) (by omega) (by simp)
  refine ⟨r, ?_, r0, r1⟩
  simp only [laws_pick.f]
  refine Ev.ite (fun h => absurd h c) (fun _ => Ev.succ ?_)
  simp only [laws_pick.j0]
  exact Ev.ite (fun h => absurd h (by decide)) (fun _ => hr)
theorem pure_FnEditJoin : laws_FnEditJoin.Pure := by
  intro s _ _ hw
  apply Ev.of
  have hB := B.of_wf hw
  refine Ev.bind (Ev.const (v := decide ((s.length : Int) > 1048576)) rfl) (Ev.ite (fun _ => Ev.pure _) (fun h => ?_))
  have hl : (s.length : Int) ≤ 1048576 := by simpa using h
  obtain ⟨a, c, m, a', c', m', hd, bm, bm'⟩ := DrawEditJoin_ok ⟨hB, hl⟩
  refine Ev.bind hd (Ev.bind (sJoin_ev a c m a' c' m') (Ev.bind (iJoin_ev a c m a' c' m') ?_))
  refine Ev.ite (fun h => absurd h (by simp)) (fun _ => Ev.bind (sameEdit_ev _ _ _) (Ev.ite (fun _ => ?_) (fun h => (h (by first | rfl | trivial)).elim)))
  by_cases hj : JOk a c m a' c' m'
  · have e : join a c m a' c' m' = (a, c, jtext a m a' c' m', true) := by unfold join; rw [if_pos hj]
    rw [e]
    apply Ev.succ
    simp only [laws_FnEditJoin.j0]
    refine Ev.ite (fun h => absurd h (by decide)) (fun _ => ?_)
    obtain ⟨r, hr, r0, r1⟩ := lpick_ev hB hl
    refine Ev.bind hr ?_
    obtain ⟨⟨g1, g2⟩, ⟨g3, g4⟩, g5⟩ := hj.1
    have w : mn 400 (wrap64 (wrap64 (a + c) + r)) = min 400 (a + c + r) := by
      rw [wrap64_id (n := a + c) (by omega) (by omega), wrap64_id (by omega) (by omega)]
      unfold mn; split <;> omega
    rw [w]
    have jB : B (jtext a m a' c' m') := ((bm.take _).app bm').app (bm.drop _)
    refine Ev.ite (fun _ => Ev.ite (fun _ => ?_) (fun h => absurd (by omega) h)) (fun h => absurd (by omega) h)
    refine law_loop bm bm' hj jB (min 400 (a + c + r)).toNat _ 0 (fun x hx => by have := List.eq_of_mem_replicate hx; omega) (by rw [List.length_replicate]; omega) (by omega) (by rw [List.length_replicate]; omega)
  · have e : join a c m a' c' m' = (0, 0, [], false) := by unfold join; rw [if_neg hj]
    rw [e]
    apply Ev.succ
    simp only [laws_FnEditJoin.j0]
    exact Ev.ite (fun _ => Ev.ite (fun _ => Ev.bind (sameEdit_ev _ _ _) (Ev.pure _)) (fun h => (h (by first | rfl | trivial)).elim)) (fun h => (h (by first | rfl | trivial)).elim)
end Go.Proofs.YteapbiiffcchbaaDoor.V
namespace Go.Proofs.YteapbiiffcchbaaDoor.fnEditJoin
open Go.ChangeShapes Go.WideShapes Go.ChangeAt Go.RowKit Go.Lib
open Go.ChangeMaps (open_string shut_string)
set_option linter.unusedVariables false
theorem own : ownKnob Tryd.prog.godebug = none := by kernel_rfl
theorem laidOut : laidOutB Tryd.prog = true := by kernel_rfl
def ren : Go.Shelf.Ren := ⟨fun x => x, fun x => if x = 119 then 159 else if x = 138 then 161 else if x = 139 then 162 else x, fun x => if x = 3 then 0 else if x = 4 then 1 else x⟩
theorem types : U8Types Tryd.prog ren := ⟨Tryd.underlying5, Tryd.underlying159, Tryd.underlying161, Tryd.underlying162⟩
theorem eFirst : Rows.laid_unicode_utf8_first = Lib.firstData := by kernel_rfl
theorem eAccept : Rows.laid_unicode_utf8_acceptRanges = Lib.acceptData := by kernel_rfl
noncomputable def laidWorld (os : Os) : World :=
  let w0 := World.holding Tryd.prog os ⟨#[], #[], []⟩
  let put (h : Array Obj) (g : Nat) (cs : Array Value) : Array Obj := h.modify g fun
    | .cells _ t frozen => .cells cs t frozen
    | o => o
  let h1 := put w0.heap 0 (Lib.firstTab.map fun z => Value.int .u8 z).toArray
  let h2 := put h1 1 ((List.range 16).flatMap fun i => [Value.int .u8 (Lib.accLo i), Value.int .u8 (Lib.accHi i)]).toArray
  { w0 with heap := h2 }
theorem laid_met (os : Os) (args : Array Value) : laidMet Tryd.prog Rows.fnEditJoinRow.laid ((laidWorld os).forCall (fun _ _ => 0) ⟨#[], args, []⟩).memory :=
  (LaidIn.of_run (l := Rows.fnEditJoinRow.laid) [0, 1] 8 (by kernel_rfl) (by kernel_rfl) (by kernel_rfl) (by kernel_rfl)).met
theorem witness_row (os : Os) {H : Type} (enc : TypeId × Value → H) :
    (OpenSpec.ofChange Rows.fnEditJoinSpec).preRow enc Tryd.prog Tryd.f3 Rows.fnEditJoinRow.domain false Rows.fnEditJoinRow.laid ((laidWorld os).forCall (fun _ _ => 0) ⟨#[], #[.slice none 0 0], []⟩).memory #[.slice none 0 0] := by
  have hw : (DataW.whole enc Tryd.prog ((laidWorld os).forCall (fun _ _ => 0) ⟨#[], #[.slice none 0 0], []⟩).memory Tryd.f3.params.toList (OpenSpec.ofChange Rows.fnEditJoinSpec).vars false #[Value.slice none 0 0].toList 8).map (fun x => (x.1, x.2.1)) =
      some ([.nil], []) := by kernel_rfl
  obtain ⟨⟨x1, x2, x3⟩, hx, hx1⟩ := Option.map_eq_some_iff.1 hw
  simp only [Prod.mk.injEq] at hx1
  obtain ⟨rfl, rfl⟩ := hx1
  exact OpenSpec.preRow_of_cond 8 hx (by kernel_rfl) (fun k hk => by cases hk) (by kernel_rfl) (laid_met os _)
def IsRow (k : IntKind) (w : World) (a : Option Addr) (len cap : Nat) (zs : List Int) : Prop :=
  (a = none ∧ len = 0 ∧ cap = 0 ∧ zs = []) ∨
  ∃ x, a = some x ∧ len ≤ cap ∧ cap ≤ maxLen ∧ zs.length = cap ∧ (∀ i, i < zs.length → w.cell? (x.add i) = some (.int k (zs.getD i 0))) ∧ ∀ n ∈ zs, (Lit.int k n).wf = true
set_option maxRecDepth 100000 in
set_option maxHeartbeats 2000000 in
theorem lifted (os : Os) (started : os.Started) (H : Type) (enc : TypeId × Value → H) (F : Stop.Interp) :
    ReturnsInHanded {} Tryd.checked os 3 .any ((OpenSpec.ofChange Rows.fnEditJoinSpec).preRow enc Tryd.prog Tryd.f3 Rows.fnEditJoinRow.domain false Rows.fnEditJoinRow.laid) (((OpenSpec.ofChange Rows.fnEditJoinSpec).at F).post enc Tryd.prog Tryd.f3 false true false false) := by
  refine returnsInHanded_of_row (C := Tryd.checked) (s := OpenSpec.ofChange Rows.fnEditJoinSpec) own started (by kernel_rfl) Tryd.func3
    (witness_row_atRef (enc := enc) (C := Tryd.checked) false (laidWorld os) #[.slice none 0 0] rfl (by kernel_rfl) (by kernel_rfl) (by kernel_rfl) (witness_row os enc)) ?_
  intro W base args ds gs before hval0 hW _ _ hsz0 hL _ _
  have hsz : (DataW.weightsEach Tryd.prog (Tryd.f3.params.toList ++ Rows.fnEditJoinSpec.plain.varTypes Tryd.prog) (ds ++ gs)).all (· ≤ reachBytes) = true := hsz0
  have hval : ∀ (j : Nat) t v, Tryd.f3.params[j]? = some t → args[j]? = some v → Value.okWide Tryd.prog W .any base t v := hval0
  have hW' := hW
  obtain ⟨p, q, hA0, hV, rfl, hfz, hnd⟩ := hW
  have hA : DataW.TrodAll enc Tryd.prog W 0 (fun _ => true) true Tryd.f3.params.toList args.toList ds p := hA0
  rw [Tryd.params3] at hA hval hsz
  obtain ⟨v0, vs0, d0, ds0, p0, q0, hargs, rfl, rfl, h0, r0⟩ := trodAll_cons hA
  obtain ⟨rfl, rfl, rfl⟩ := trodAll_nil r0
  obtain rfl : args = #[v0] := by cases args; simp_all
  obtain ⟨rfl, rfl⟩ := trodVars_none hV
  obtain ⟨a0, len0, cap0, rfl⟩ := okWide_slice Tryd.underlying22 (hval 0 22 v0 rfl rfl)
  have k0 := h0
  have lt0 : ∀ x ∈ p0, x.block < W.heap.size := by obtain ⟨m, hm⟩ := k0; exact DataW.trod_lt m _ _ _ hm
  obtain ⟨z0, w0⟩ : ∃ zs, IsRow .u8 W a0 len0 cap0 zs := by
    obtain ⟨fuel, hf⟩ := h0
    rcases open_ints Tryd.underlying22 Tryd.underlying5 (by kernel_rfl) hf with ⟨hcs, _⟩ | ⟨x, l, c, zs, hcs, _, hl, hm, hz, _, hcell, hwz⟩
    · simp [Value.cells] at hcs
      obtain ⟨rfl, rfl, rfl⟩ := hcs
      exact ⟨[], .inl ⟨rfl, rfl, rfl, rfl⟩⟩
    · simp [Value.cells] at hcs
      obtain ⟨rfl, rfl, rfl⟩ := hcs
      exact ⟨zs, .inr ⟨_, rfl, hl, hm, by simpa using hz, hcell, hwz⟩⟩
  have y0 : len0 * 1 ≤ 140737488351232 := Go.Proofs.YteapbiiffcchbaaDoorW.PrintWords.sized_ints hsz (j := 0) (t := 22) rfl rfl Tryd.underlying22 Tryd.underlying5 (by kernel_rfl) (by kernel_rfl) h0
  clear hA0 hval0 hsz0 hsz
  have hG : Go.Proofs.YteapbiiffcchbaaDoor.G.GTab W := ⟨utf8Tabs_of_readsT types ⟨by kernel_rfl, by kernel_rfl, by kernel_rfl, by kernel_rfl, by kernel_rfl, by kernel_rfl, by kernel_rfl⟩
    (eFirst ▸ Lib.laidMet.reads hL (.tail _ (.head _))) (eAccept ▸ Lib.laidMet.reads hL (.head _))⟩
  refine (Go.Proofs.YteapbiiffcchbaaDoor.P.laws_FnEditJoin.walk Go.Proofs.YteapbiiffcchbaaDoor.V.pure_FnEditJoin a0 len0 cap0 z0 W w0 y0 hG).mono fun e W' ⟨he, bel⟩ => ?_
  subst he
  exact ⟨_, rfl, _, _, _, [], _, [], hW', trodAll_mk1 (shut_bool Tryd.underlying4 _), trodAll_cons_mk (Below.trod laidOut (by kernel_rfl) (of_decide_eq_true (by kernel_rfl)) k0 bel lt0) trodAll_mk0, rfl, bel.frame _, fun h => by cases h⟩
theorem over : Rows.fnEditJoinRow.holds Tryd.pinned (OpenSpec.ofChange Rows.fnEditJoinSpec) :=
  OpenClaim.holds_of_cond 3 Tryd.f3 rfl rfl rfl rfl rfl rfl rfl ⟨rfl, rfl, rfl, rfl, rfl⟩ rfl rfl rfl rfl rfl (by kernel_rfl) Tryd.func3 (by kernel_rfl)
    (of_decide_eq_true (by kernel_rfl)) (by unfold Func.isWrapper; first | (rw [if_pos (by decide +kernel)]; kernel_rfl) | (rw [if_neg (by decide +kernel)]; exact ⟨rfl, rfl⟩))
    (fun os started H enc _ F0 => by rw [OpenClaim.pre_eq_preRow]; exact lifted os started H enc F0)
theorem said : Rows.FnEditJoinSaid := over
theorem card : Rows.FnEditJoinCardSaid :=
  Claim7.holds_tied_plain_at .later [] [.data, .pinned] true (true, "06124a4cfdb85dedaeecd8b2c313edae634e03dad06193a7f354c22053534571") false
    said (fun _ h => by cases h) (by kernel_rfl) (fun _ h => by cases h) fnEditJoin_row_tie rfl ⟨rfl, rfl⟩ (by kernel_rfl) rfl
    (fun f fn hf hfn => by
      obtain rfl : f = 3 := Option.some.inj ((show Tryd.prog.funcNamed "loop.example/g00677/laws.FnEditJoin" = some 3 by kernel_rfl).symm.trans hf) |>.symm
      obtain rfl : fn = Tryd.f3 := (Option.some.inj (Tryd.func3.symm.trans hfn)).symm
      exact ⟨by kernel_rfl, fun j t ht => by
        rw [Tryd.params3] at ht
        have h3 : t = 22 := by
          rcases j with _ | j
          · simpa using ht.symm
          · simp at ht
        subst h3
        exact (show Tryd.prog.wantsStandIn 22 = false by kernel_rfl)⟩)
    (by kernel_rfl)
#print axioms card
end Go.Proofs.YteapbiiffcchbaaDoor.fnEditJoin
namespace Go.Proofs.YteapbiiffcchbaaDoor
theorem fnEditJoin_card : Rows.FnEditJoinCardSaid := fnEditJoin.card
end Go.Proofs.YteapbiiffcchbaaDoor
