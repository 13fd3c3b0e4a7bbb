/- The law FnEditsDo (applying a list of edits in two parts has the same effect as applying it at once) returns true for every input and leaves its input as it was; conditions: the two tables of unicode/utf8 hold what the program's text lays (tied by the card). Part 2 of 5: joined by a program of the session's (wip/pack.py) out of its own texts and of the printed words, without remarks and without what nothing names. Not trusted: Lean checks it. -/
import Derived.Test.YteapbiiffcchbaaDoorE1
import Derived.Test.YteapbiiffcchbaaDoorProg
import Derived.WalkKit
import Derived.KernelRfl
import Derived.Shelf.Unicode.DecodeSlow
import Derived.Below
import Derived.Deep.Draws
import Derived.Deep.AppendLies
import Derived.Maps.AppendAt
import Derived.OwnWalk
import Derived.Laws.BytesArg
import Derived.Laws.MakeOwn
import Derived.Laws.OwnMore
import Derived.Deep.OwnRows
import Derived.Tactics
import Derived.Lib.ConvBytes
import Derived.Laws.Slices
import Derived.RowKit3
import Derived.Deep.LoopGhost
import Derived.Deep.QuietTactic
import Derived.BigQuiet
import Derived.WideLaws
import Derived.Deep.DeepCutAuto
import Derived.Deep.CutBlock
import Derived.Deep.RegionHeld3
import Derived.Laws.Rows
import Derived.Lib.AppendStr
import Derived.ArgAppend
import Derived.Laws.IdiomCopy
import Derived.OrdersHeld
import Derived.Laws.BitsLemmas
import Derived.RowKit
namespace Go.Proofs.YteapbiiffcchbaaDoor.G
open Go.RowKit Go.Proofs.YteapbiiffcchbaaDoorW.PrintWords Go.Proofs.YteapbiiffcchbaaDoorW.PrintLast Go.Proofs.YteapbiiffcchbaaDoorW.PrintMore
set_option linter.unusedVariables false
structure GTab (w : World) : Prop where mk :: (out : Lib.Utf8Tabs 0 1 w)
theorem GTab.below {w w' : World} (h : GTab w) (hb : Below w.heap.size w w') : GTab w' := ⟨Utf8Tabs_below h.out hb⟩
theorem cut_to_cap {P : Program} (t e : TypeId) (kh : IntKind) {i : TypeInfo} (ht : P.underlying t = some (.slice e)) (hi : P.info? e = some i) (A : Option Addr) (n c : Nat) (j : Int) (h0 : 0 ≤ j) (hm : j ≤ n) (hc : n ≤ c) :
    ∀ W : World, (Instr.slice t (.slice A n c) none (some (.int kh j)) (some (.int kh j))).run P W = .ok (.slice A j.toNat j.toNat) W := by
  intro W
  have hel : P.elem t = e := by simp [Program.elem, ht]
  have hu : P.underlying t = some (.slice (P.elem t)) := by rw [hel]; exact ht
  have ha : (A.map fun x => x.add 0) = A := by cases A <;> simp [Addr.add]
  rw [run_slice_hm W t A n c hu kh kh j j h0 (Int.le_refl _) (by omega), hel]
  simp [sizeOf, typeInfo, hi, sliced, Result.andThen, ha]
def gtab0 : List Int := (List.range 256).map fun c => ((Lib.firstT c : Nat) : Int)
theorem GTab.at0 {w : World} (h : GTab w) (j : Int) (h0 : 0 ≤ j) (h1 : j < 256) : w.cell? ⟨0, j.toNat, none⟩ = some (.int .u8 (rd gtab0 j)) := by
  have hc := h.out.1 j.toNat (by omega)
  have hr : rd gtab0 j = ((Lib.firstT j.toNat : Nat) : Int) := by
    unfold rd gtab0
    rw [List.getD_eq_getElem?_getD, List.getElem?_map, List.getElem?_range (show j.toNat < 256 by omega)]
    rfl
  rw [hr]
  exact hc
end Go.Proofs.YteapbiiffcchbaaDoor.G
namespace Go.Proofs.YteapbiiffcchbaaDoor.P
open Go.Proofs.YteapbiiffcchbaaDoor.G
open Go.RowKit Go.Proofs.YteapbiiffcchbaaDoorW.PrintWords Go.Proofs.YteapbiiffcchbaaDoorW.PrintLast Go.Proofs.YteapbiiffcchbaaDoorW.PrintMore
attribute [local go_sem] max2_int min2_int max_two min_two max_three min_three max_four min_four
set_option linter.unusedVariables false
set_option linter.unusedSimpArgs false
def errW : Option Int → Value
  | none => .nilIface
  | some c => .iface 0 (.int .i64 c)
theorem errW_none : errW none = .nilIface := rfl
theorem errW_some (c : Int) : errW (some c) = .iface 0 (.int .i64 c) := rfl
theorem info3 : (Tryd.prog.info? 3).map (fun i => (i.zero, i.size, i.bytes)) = some (some (.int .i64 0), 1, 8) := by kernel_rfl
theorem info5 : (Tryd.prog.info? 5).map (fun i => (i.zero, i.size, i.bytes)) = some (some (.int .u8 0), 1, 1) := by kernel_rfl
theorem info25 : (Tryd.prog.info? 25).map (fun i => (i.zero, i.size, i.bytes)) = some (some (.agg #[(.int .i64 0), (.int .i64 0), (.slice none 0 0)]), 3, 40) := by kernel_rfl
theorem info125 : (Tryd.prog.info? 125).map (fun i => (i.zero, i.size, i.bytes)) = some (some (.agg #[(.slice none 0 0)]), 1, 24) := by kernel_rfl
def rd_L2 (xs : List (List Int)) (i : Int) : (List Int) := xs.getD i.toNat ([] : List Int)
theorem at_L2 {w : World} {A : Option Addr} {n : Nat} {xs : List (List Int)} (h : Kd.C (Kd.slice 5 (Kd.int .u8)) w A n xs) (i : Int) (h0 : 0 ≤ i) (h1 : i < n) : ∃ ad A0 c0, A = some ad ∧ w.cell? (ad.add i.toNat) = some (.slice A0 (rd_L2 xs i).length c0) ∧ (rd_L2 xs i).length ≤ c0 ∧ (Kd.int .u8).C w A0 (rd_L2 xs i).length (rd_L2 xs i) := by
  obtain ⟨ad, c, e, _, hK, hc0⟩ := Kd.C_get h ([] : List Int) i h0 h1
  have hc : ∀ j u, c[j]? = some u → w.cell? (ad.add (i.toNat * 1 + j)) = some u := hc0
  obtain ⟨A0, c0, rfl, l0, g0⟩ := hK
  exact ⟨ad, A0, c0, e, by have hq := hc 0 _ rfl; rwa [Nat.mul_one, Nat.add_zero] at hq, l0, g0⟩
structure S125 where
  f0 : (List Int)
def z125 : S125 := ⟨([] : List Int)⟩
def k125 : Kd S125 := Kd.iso (Kd.slice 5 (Kd.int .u8)) (fun x : S125 => x.f0)
theorem k125_open {w : World} {x : S125} {cs : List Value} (h : k125.K w x cs) : ∃ A0 c0, cs = [.slice A0 x.f0.length c0] ∧ x.f0.length ≤ c0 ∧ (Kd.int .u8).C w A0 x.f0.length x.f0 := by
  obtain ⟨A0, c0, rfl, l0, g0⟩ := h
  exact ⟨A0, c0, rfl, l0, g0⟩
theorem k125_mkM (w : World) (base : Nat) (ok : Nat → Prop) (x : S125) {v0 : Value} (g0 : (Kd.int .u8).R 5 w base ok v0 x.f0) : k125.M w base ok x [v0] := ⟨v0, rfl, g0⟩
def rd_T125 (xs : List S125) (i : Int) : S125 := xs.getD i.toNat z125
theorem at_T125 {w : World} {A : Option Addr} {n : Nat} {xs : List S125} (h : Kd.C k125 w A n xs) (i : Int) (h0 : 0 ≤ i) (h1 : i < n) : ∃ ad A0 c0, A = some ad ∧ w.cell? (ad.add i.toNat) = some (.slice A0 (rd_T125 xs i).f0.length c0) ∧ (rd_T125 xs i).f0.length ≤ c0 ∧ (Kd.int .u8).C w A0 (rd_T125 xs i).f0.length (rd_T125 xs i).f0 := by
  obtain ⟨ad, c, e, _, hK, hc0⟩ := Kd.C_get h z125 i h0 h1
  have hc : ∀ j u, c[j]? = some u → w.cell? (ad.add (i.toNat * 1 + j)) = some u := hc0
  obtain ⟨A0, c0, rfl, l0, g0⟩ := k125_open hK
  exact ⟨ad, A0, c0, e, by have hq := hc 0 _ rfl; rwa [Nat.mul_one, Nat.add_zero] at hq, l0, g0⟩
structure S161 where
  f0 : Int
  f1 : Int
def z161 : S161 := ⟨(0 : Int), (0 : Int)⟩
def rd_T161 (xs : List S161) (i : Int) : S161 := xs.getD i.toNat z161
structure S25 where
  f0 : Int
  f1 : Int
  f2 : (List Int)
def z25 : S25 := ⟨(0 : Int), (0 : Int), ([] : List Int)⟩
def k25 : Kd S25 := Kd.iso (Kd.pair (Kd.int .i64) (Kd.pair (Kd.int .i64) (Kd.slice 5 (Kd.int .u8)))) (fun x : S25 => (x.f0, x.f1, x.f2))
theorem k25_open {w : World} {x : S25} {cs : List Value} (h : k25.K w x cs) : ∃ A2 c2, cs = [.int .i64 x.f0, .int .i64 x.f1, .slice A2 x.f2.length c2] ∧ x.f2.length ≤ c2 ∧ (Kd.int .u8).C w A2 x.f2.length x.f2 := by
  obtain ⟨_, _, rfl, rfl, ⟨_, _, rfl, rfl, ⟨A2, c2, rfl, l2, g2⟩⟩⟩ := h
  exact ⟨A2, c2, rfl, l2, g2⟩
theorem k25_mk (w : World) (x : S25) {A2 : Option Addr} {c2 : Nat} (l2 : x.f2.length ≤ c2) (g2 : (Kd.int .u8).C w A2 x.f2.length x.f2) : k25.K w x [.int .i64 x.f0, .int .i64 x.f1, .slice A2 x.f2.length c2] := ⟨[.int .i64 x.f0], [.int .i64 x.f1, .slice A2 x.f2.length c2], rfl, rfl, ⟨[.int .i64 x.f1], [.slice A2 x.f2.length c2], rfl, rfl, ⟨A2, c2, rfl, l2, g2⟩⟩⟩
theorem k25_mkM (w : World) (base : Nat) (ok : Nat → Prop) (x : S25) {v2 : Value} (g2 : (Kd.int .u8).R 5 w base ok v2 x.f2) : k25.M w base ok x [.int .i64 x.f0, .int .i64 x.f1, v2] := ⟨[.int .i64 x.f0], [.int .i64 x.f1, v2], rfl, rfl, ⟨[.int .i64 x.f1], [v2], rfl, rfl, ⟨v2, rfl, g2⟩⟩⟩
theorem k25_mkF (W : World) (ok : Nat → Prop) (x : S25) {A2 : Option Addr} {c2 : Nat} (l2 : x.f2.length ≤ c2) (g2 : Kd.F (Kd.int .u8) W ok A2 x.f2.length x.f2) : Kd.FK k25 W ok x [.int .i64 x.f0, .int .i64 x.f1, .slice A2 x.f2.length c2] := fun W2 hW => k25_mk W2 x l2 (g2 W2 hW)
def rd_T25 (xs : List S25) (i : Int) : S25 := xs.getD i.toNat z25
theorem at_T25 {w : World} {A : Option Addr} {n : Nat} {xs : List S25} (h : Kd.C k25 w A n xs) (i : Int) (h0 : 0 ≤ i) (h1 : i < n) : ∃ ad A2 c2, A = some ad ∧ w.cell? (ad.add (i.toNat * 3)) = some (.int .i64 (rd_T25 xs i).f0) ∧ w.cell? ⟨(ad.add (i.toNat * 3)).block, (ad.add (i.toNat * 3)).off + 1, none⟩ = some (.int .i64 (rd_T25 xs i).f1) ∧ w.cell? ⟨(ad.add (i.toNat * 3)).block, (ad.add (i.toNat * 3)).off + 2, none⟩ = some (.slice A2 (rd_T25 xs i).f2.length c2) ∧ (rd_T25 xs i).f2.length ≤ c2 ∧ (Kd.int .u8).C w A2 (rd_T25 xs i).f2.length (rd_T25 xs i).f2 := by
  obtain ⟨ad, c, e, _, hK, hc0⟩ := Kd.C_get h z25 i h0 h1
  have hc : ∀ j u, c[j]? = some u → w.cell? (ad.add (i.toNat * 3 + j)) = some u := hc0
  obtain ⟨A2, c2, rfl, l2, g2⟩ := k25_open hK
  exact ⟨ad, A2, c2, e, hc 0 _ rfl, by rw [← add_field _ _ 1 (by omega)]; exact hc 1 _ rfl, by rw [← add_field _ _ 2 (by omega)]; exact hc 2 _ rfl, l2, g2⟩
end Go.Proofs.YteapbiiffcchbaaDoor.P
namespace Go.Proofs.YteapbiiffcchbaaDoor.G
open Go.RowKit Go.Proofs.YteapbiiffcchbaaDoorW.PrintWords Go.Proofs.YteapbiiffcchbaaDoorW.PrintLast Go.Proofs.YteapbiiffcchbaaDoorW.PrintMore Go.Proofs.YteapbiiffcchbaaDoor.P
set_option linter.unusedVariables false
theorem odt {p : Prop} [Decidable p] (h : decide p = true := by first | (with_reducible assumption) | assumption) : p := of_decide_eq_true h
theorem hbw {P : Prop} (h : P := by repeat (first | (with_reducible first | exact HB.out | apply below_alloc | apply pw_below_drewN | apply below_drew1) | exact HB.out)) : P := h
theorem hbs {P : Prop} (h : P := by repeat (first | (with_reducible first | exact HB.out | apply below_alloc | apply pw_below_drewN | apply below_drew1 | refine below_set ?_ (Aside0.out (by with_reducible assumption))) | exact HB.out)) : P := h
theorem bkb {W W' w1 : World} {g : Nat} {o : Obj} (h : Aside0 (W.heap[g]? = some o)) (hb : Below W'.heap.size W' w1) (p : W.heap[g]? = some o → W'.heap[g]? = some o := by intro h_; (with_reducible repeat (first | refine blk_drewN ?_ _ | refine blk_drew ?_ | refine blk_alloc ?_ _)); exact h_) : w1.heap[g]? = some o := blk_below (p h.out) hb
theorem bkk {W W' w1 : World} {g g' : Nat} {o : Obj} (hk : KeepBut W' w1 g none) (h : Aside0 (W.heap[g']? = some o)) (hn : g' ≠ g) (p : W.heap[g']? = some o → W'.heap[g']? = some o := by intro h_; (with_reducible repeat (first | refine blk_drewN ?_ _ | refine blk_drew ?_ | refine blk_alloc ?_ _)); exact h_) : w1.heap[g']? = some o := KeepBut.blk hk (p h.out) hn (by simp)
theorem hrnR {P Q : Prop} (h : Aside0 P) (p : P → Q := by intro h_; (with_reducible repeat (first | apply Kd.R_alloc | apply Kd.R_drewN | apply Kd.R_drew)); exact h_) : Q := p h.out
theorem hrnS {P Q : Prop} (h : Aside0 P) (p : P → Q := by intro h_; (with_reducible repeat (first | apply Kd.S_alloc | apply Kd.S_drewN | apply Kd.S_drew)); exact h_) : Q := p h.out
theorem hrnN {P Q : Prop} (h : Aside0 P) (p : P → Q := by intro h_; (with_reducible repeat (first | apply Kd.N_alloc | apply Kd.N_drewN | apply Kd.N_drew)); exact h_) : Q := p h.out
theorem hrnV {P Q : Prop} (h : Aside0 P) (p : P → Q := by intro h_; (with_reducible repeat (first | apply Kd.V_alloc | apply Kd.V_drewN | apply Kd.V_drew)); exact h_) : Q := p h.out
theorem cpl {P Q : Prop} (h : P) (p : P → Q := by intro h_; repeat (first | exact h_ | (with_reducible refine Kd.C_alloc ?_ _) | (with_reducible refine Kd.C_drewN ?_ _) | (with_reducible refine Kd.C_drew ?_))) : Q := p h
theorem erf {P : Prop} (h : P := by first | rfl | (simp [errW_none, errW_some] <;> rfl) | (simp [*, errW_none, errW_some] <;> rfl)) : P := h
theorem rfs {P : Prop} (h : P := by first | rfl | (simp; done) | (simp [*]; done)) : P := h
theorem gsz {w W : World} {g : Nat} (hg : g = W.heap.size) (h : Below w.heap.size w W) : w.heap.size ≤ g := by rw [hg]; exact below_size h
section
variable {P : Program} {ops : Array Oper} {Q : Exit → Act → World → Prop}
theorem goesM {rest : List Oper} {oi : Oper} {a : Act} {w : World} (N : Option Tmp) {f : FuncId} {fn : Func} {xs0 : Array Operand} {ts : Array TypeId} (hf : P.funcs[f]? = some fn) (args : Array Value)
    (h : Calls P f args w fun e w' => ∃ v, e = .returned v ∧ wpList P ops Q rest (a.put N v) w')
    (hname : (fn.name == "runtime.NumGoroutine") = false := by kernel_rfl) (hb : fn.body.isSome = true := by rfl) (hd : oi.dst = N := by rfl) (hg : oi.guard = none := by rfl)
    (hop : oi.op = .call { callee := .value (.func f), args := xs0, argTypes := ts } := by rfl) (hargs : xs0.map a.eval = args := by (try simp only [List.map_toArray, List.map_cons, List.map_nil]); first | done | rfl | (simp only [List.length_drop, List.length_take]; rfl)) : wpList P ops Q (oi :: rest) a w :=
  goesL_ N hd hg hf hname hb args hop hargs h
end
theorem nbl {W W' : World} {g g2 : Nat} {o : Obj} (h : Aside0 (W.heap[g]? = some o)) (hg : g2 = W'.heap.size) (p : W.heap[g]? = some o → W'.heap[g]? = some o := by intro h_; (with_reducible repeat (first | refine blk_drewN ?_ _ | refine blk_drew ?_ | refine blk_alloc ?_ _)); exact h_) : g ≠ g2 := by rw [hg]; exact Nat.ne_of_lt (blk_lt (p h.out))
theorem nbg {W W' : World} {g g2 : Nat} {o : Obj} (h : Aside0 (W.heap[g]? = some o)) (hg : g2 = W'.heap.size) (p : W.heap[g]? = some o → W'.heap[g]? = some o := by intro h_; (with_reducible repeat (first | refine blk_drewN ?_ _ | refine blk_drew ?_ | refine blk_alloc ?_ _)); exact h_) : g2 ≠ g := by rw [hg]; exact Nat.ne_of_gt (blk_lt (p h.out))
theorem pB {R Q : Prop} (h : R) (p : R → Q := by intro h_; (with_reducible repeat (first | refine blk_drewN ?_ _ | refine blk_drew ?_ | refine blk_alloc ?_ _)); exact h_) : Q := p h
theorem hkk {Q : Prop} (h : Q := by repeat (first | (with_reducible first | exact HK.out | apply KeepBut.set_ | apply keep_drewN | apply keep_drew | apply keep_alloc) | exact HK.out)) : Q := h
theorem repH {A : Type} {a b : A} {X Y : Prop} (hy : a = b) (H : X) (p : a = b → X → Y := by intro hy_ H_; first | (rw [hy_]; with_reducible exact H_) | (have H2_ := (Option.bind_some _ _).symm.trans H_; rw [hy_]; with_reducible exact H2_) | (have H2_ := (Option.bind_some _ _).symm.trans H_; with_reducible exact H2_) | with_reducible exact H_ | (rw [hy_]; exact H_) | exact H_) : Y := p hy H
theorem pIIsS141 {R Q : Prop} (h : Aside0 R) (p : R → Q := by intro h_; repeat (first | (with_reducible first | exact h_ | apply IsS141.alloc | apply IsS141.drewN | apply IsS141.drew | apply IsS141.set_0 | apply IsS141.set_1 | apply IsS141.set_2 | refine IsS141.far ?_ (Aside0.out (by with_reducible assumption)) _) | exact h_)) : Q := p h.out
theorem hbIsS141 {Q : Prop} (h : Q := by repeat (first | (with_reducible first | exact HB.out | apply below_alloc | apply pw_below_drewN | apply below_drew1 | refine below_set ?_ (IsS141.ge (Aside0.out (by with_reducible assumption))) | refine below_set ?_ (Aside0.out (by with_reducible assumption))) | exact HB.out)) : Q := h
section
variable {P : Program} {ops : Array Oper} {rest : List Oper} {o : Oper} {a : Act} {Q : Exit → Act → World → Prop}
theorem boxE {W : World} (N : Tmp) (cs : Array Value) (t : TypeId)
    (h : ∀ g, g = W.heap.size → ∀ w1, Aside0 (w1.heap[g]? = some (.cells cs t (0, 0))) → Below W.heap.size W w1 → wpList P ops Q rest (a.put o.dst (.pointer (some ⟨g, 0, none⟩))) w1)
    (hd : o.dst = some N := by rfl) (hg : o.guard = none := by rfl) (hr : (execOp a.eval o).run P W = .ok (.value (.pointer (some ⟨W.heap.size, 0, none⟩))) (W.alloc (.cells cs t (0, 0))) := by first | (go_simp; done) | (go_simp; rfl)) : wpList P ops Q (o :: rest) a W :=
  box_event hg hd hr fun g hg w1 hb => h g hg w1 ⟨hb⟩
end
section
variable {P : Program} {md : Region.Mode} {ops : Array Oper} {Q : Exit → Act → World → Prop} {S : World → Prop} {ds : List Nat}
theorem pureM {fuel : Nat} {l : Array Bool} {a : Act} {w : World} (i : Nat) (N : Option Tmp) (l' : Array Bool) (hc : anyB md ops l l' i = true) {oi : Oper} {v : Value} {a' : Act} (h : wpAnyLast P md ops Q S ds fuel l' a' w)
    (hi : ops[i]? = some oi := by exact rfl) (hN : oi.dst = N := by exact rfl) (hQ : ∀ c a w, Q (.panic c) (a.put oi.dst v) w → Q (.panic c) a w := by exact fun _ _ _ h => h)
    (hy : Yields P ops oi v a := by refine Or.inl ⟨by rfl, ?_⟩; intro w'; go_simp; with_reducible rfl) (ha : a.put N v = a' := by simp only [Act.put, List.setIfInBounds_toArray, List.set_cons_zero, List.set_cons_succ, i64_w, i32_w]; rfl) : wpAnyLast P md ops Q S ds (fuel + 1) l a w :=
  pure_ l' hi hN hc hQ hy ha h
end
end Go.Proofs.YteapbiiffcchbaaDoor.G
namespace Go.Proofs.YteapbiiffcchbaaDoor.P
open Go.Proofs.YteapbiiffcchbaaDoor.G
open Go.RowKit Go.Proofs.YteapbiiffcchbaaDoorW.PrintWords Go.Proofs.YteapbiiffcchbaaDoorW.PrintLast Go.Proofs.YteapbiiffcchbaaDoorW.PrintMore
attribute [local go_sem] max2_int min2_int max_two min_two max_three min_three max_four min_four
set_option linter.unusedVariables false
set_option linter.unusedSimpArgs false
def laws_big.f (l0 : List Int) : Option (Bool) := some (decide ((l0.length : Int) > 1048576))
set_option maxHeartbeats 8000000 in
set_option maxRecDepth 100000 in
theorem laws_big.calls (A0 : Option Addr) (c0 : Nat) (l0 : List Int) (r : Bool) (w : World) (hr0 : Kd.C (Kd.int .u8) w A0 l0.length l0) (hc0 : l0.length ≤ c0) (h : laws_big.f l0 = some r) :
  Calls Tryd.prog 12 #[.slice A0 l0.length c0] w fun e w' => e = .returned (.bool r) ∧ Drawn0 w w' := by
 have HR0 := Aside0.mk hr0
 have HC0 := Aside0.mk hc0
 clear hr0 hc0
 have H : (some (decide ((l0.length : Int) > 1048576))) = some r := h
 clear h
 obtain rfl := Option.some.inj H
 go_enter Tryd.func12, Tryd.ntmps12
 go_wp2
 go_ret
 exact ⟨by first | rfl | (simp; done) | (simp [*]; done), by repeat (first | exact Drawn0.refl _ | apply Drawn0.step)⟩
mutual
def laws_pick.j0 : Nat → List Int → Int → Int → Bool → Option (Int)
 | 0, _, _, _, _ => none
 | k + 1, x0, x1, x2, x15 => if x15 = true then (some 0) else (laws_pick.l0 k x0 x1 x2 0 0)
def laws_pick.l0 : Nat → List Int → Int → Int → Int → Int → Option (Int)
 | 0, _, _, _, _, _ => none
 | k + 1, x0, x1, x2, x7, x8 => if x8 < 3 then (if (x0.length : Int) = 0 then (none) else (if 0 ≤ (Int.tmod (wrap64 (x1 + x8)) (x0.length : Int)) then (if (Int.tmod (wrap64 (x1 + x8)) (x0.length : Int)) < (x0.length : Int) then (laws_pick.l0 k x0 x1 x2 (wrap64 ((wrap64 (31 * x7)) + (wrap64 (rd x0 (Int.tmod (wrap64 (x1 + x8)) (x0.length : Int)))))) (wrap64 (x8 + 1))) else (none)) else (none))) else (if x2 = 0 then (none) else (some (Int.tmod (wrap64 (x7 + x1)) x2)))
end
def laws_pick.f (k : Nat) (l0 : List Int) (a1 : Int) (a2 : Int) : Option (Int) := if (l0.length : Int) = 0 then (laws_pick.j0 k l0 a1 a2 true) else (laws_pick.j0 k l0 a1 a2 (decide (a2 < 2)))
set_option maxHeartbeats 8000000 in
set_option maxRecDepth 100000 in
theorem laws_pick.calls (k : Nat) (A0 : Option Addr) (c0 : Nat) (l0 : List Int) (a1 : Int) (a2 : Int) (r : Int) (w : World) (hr0 : Kd.C (Kd.int .u8) w A0 l0.length l0) (hc0 : l0.length ≤ c0) (h : laws_pick.f k l0 a1 a2 = some r) :
  Calls Tryd.prog 17 #[.slice A0 l0.length c0, .int .i64 a1, .int .i64 a2] w fun e w' => e = .returned (.int .i64 r) ∧ Drawn0 w w' := by
 have HR0 := Aside0.mk hr0
 have HC0 := Aside0.mk hc0
 clear hr0 hc0
 have H : (if (l0.length : Int) = 0 then (laws_pick.j0 k l0 a1 a2 true) else (laws_pick.j0 k l0 a1 a2 (decide (a2 < 2)))) = some r := h
 clear h
 have HC4 := Aside0.mk H
 clear H
 go_enter Tryd.func17, Tryd.ntmps17
 go_upto_region 1 with (fail)
 go_cut [15] (fun v15 wc => ∃ (kq : Nat) (x15_3 : Bool), v15 = .bool x15_3 ∧ Aside0 (laws_pick.j0 kq l0 a1 a2 x15_3 = some r) ∧ Aside0 (kq ≤ k) ∧ Drawn0 w wc)
 case first =>
  have H := HC4.out
  clear HC4
  by_cases c5 : (l0.length : Int) = 0
  ·rw [if_pos c5] at H
   have c5b0 : ((l0.length : Int) == 0) = true := beq_iff_eq.mpr c5
   have c5b1 : ((l0.length : Int) != 0) = false := bne_eq_false_iff_eq.mpr c5
   clear c5
   (first | rw [c5b0] | (simp only [i64_w, i32_w]; rw [c5b0]) | skip)
   have H' := Aside0.mk H
   clear H
   go_wp2
   go_meet
   case rel => exact ⟨_, (true), rfs, H', ⟨by first | omega | exact Nat.le_refl _⟩, by repeat (first | exact Drawn0.refl _ | apply Drawn0.step)⟩
  ·rw [if_neg c5] at H
   have c5b0 : ((l0.length : Int) == 0) = false := beq_eq_false_iff_ne.mpr c5
   have c5b1 : ((l0.length : Int) != 0) = true := bne_iff_ne.mpr c5
   have c5b2 : ¬ (l0 = []) := fun h_ => c5 (by rw [h_]; rfl)
   (first | rw [c5b0] | (simp only [i64_w, i32_w]; rw [c5b0]) | skip)
   have H' := Aside0.mk H
   clear H
   go_wp2
   go_meet
   case rel => exact ⟨_, (decide (a2 < 2)), rfs, H', ⟨by first | omega | exact Nat.le_refl _⟩, by repeat (first | exact Drawn0.refl _ | apply Drawn0.step)⟩
 case rest =>
  clear HC4
  try clear c1
  try clear p2
  try clear c5
  try clear c5b0
  try clear c5b1
  try clear c5b2
  obtain ⟨kq, x15_3, rfl, HA, HJ3, ⟨mc3, rfl⟩⟩ := hcut
  cases kq with
  | zero => exact absurd HA.out (by simp [laws_pick.j0])
  | succ kj3 =>
   have H := HA.out
   clear HA
   simp only [laws_pick.j0] at H
   by_cases c6 : x15_3 = true
   ·subst c6
    have H1 : (some 0) = some r := by rw [if_pos rfl] at H; exact H
    clear H
    have H := H1
    clear H1
    obtain rfl := Option.some.inj H
    go_wp2
    go_ret
    exact ⟨by first | rfl | (simp; done) | (simp [*]; done), by repeat (first | exact Drawn0.refl _ | apply Drawn0.step)⟩
   ·replace c6 := Bool.eq_false_iff.mpr c6
    subst c6
    have H1 : (laws_pick.l0 kj3 l0 a1 a2 0 0) = some r := by rw [if_neg (show ¬ (false = true) by decide)] at H; exact H
    clear H
    have H := H1
    clear H1
    have H' := Aside0.mk H
    clear H
    go_wp2
    go_loopg [7, 8] kj3 (fun kq v7 v8 w' => ∃ (x7_2 : Int) (x8_2 : Int), v7 = .int .i64 x7_2 ∧ v8 = .int .i64 x8_2 ∧ Aside0 (laws_pick.l0 kq l0 a1 a2 x7_2 x8_2 = some r) ∧ Aside0 (kq ≤ kj3) ∧ Drawn0 w w')
    case atStart => exact ⟨(0), (0), rfs, rfs, H', ⟨Nat.le_refl _⟩, by repeat (first | exact Drawn0.refl _ | apply Drawn0.step)⟩
    case round =>
     clear H'
     try clear c1
     try clear p2
     try clear c3
     try clear c5
     try clear c5b0
     try clear c5b1
     try clear c5b2
     try clear c6
     try clear p2
     obtain ⟨x7_2, x8_2, rfl, rfl, HA, HK2, ⟨m2, rfl⟩⟩ := hrel
     cases gk with
     | zero => exact absurd HA.out (by simp [laws_pick.l0])
     | succ k2 =>
      have H := HA.out
      clear HA
      simp only [laws_pick.l0] at H
      by_cases c7 : x8_2 < 3
      ·rw [if_pos c7] at H
       have c7b0 : decide (x8_2 < 3) = true := decide_eq_true c7
       clear c7
       by_cases c8 : (l0.length : Int) = 0
       ·rw [if_pos c8] at H
        exact absurd H (by simp)
       ·rw [if_neg c8] at H
        have c8b0 : ((l0.length : Int) == 0) = false := beq_eq_false_iff_ne.mpr c8
        have c8b1 : ((l0.length : Int) != 0) = true := bne_iff_ne.mpr c8
        have c8b2 : ¬ (l0 = []) := fun h_ => c8 (by rw [h_]; rfl)
        obtain ⟨ji9, hji9⟩ : ∃ j_ : Int, (Int.tmod (wrap64 (a1 + x8_2)) (l0.length : Int)) = j_ := ⟨_, rfl⟩
        replace H : (if 0 ≤ (ji9) then (if (ji9) < (l0.length : Int) then (laws_pick.l0 k2 l0 a1 a2 (wrap64 ((wrap64 (31 * x7_2)) + (wrap64 (rd l0 (ji9))))) (wrap64 (x8_2 + 1))) else (none)) else (none)) = some r := by first | (rw [hji9] at H; exact H) | (simp only [hji9] at H ⊢; exact H)
        by_cases c10 : 0 ≤ (ji9)
        ·rw [if_pos c10] at H
         have c10b0 : decide (0 ≤ (ji9)) = true := decide_eq_true c10
         clear c10
         by_cases c11 : (ji9) < (l0.length : Int)
         ·rw [if_pos c11] at H
          have c11b0 : decide ((ji9) < (l0.length : Int)) = true := decide_eq_true c11
          clear c11
          have H' := Aside0.mk H
          clear H
          have p18001 : 0 ≤ ((ji9) : Int) := odt
          have q18001 : (ji9) < (l0.length : Int) := odt
          obtain ⟨ad18001, e18001, hx18001_0⟩ := Kd.at_int HR0.out (ji9) p18001 q18001
          cases e18001
          replace p18001 := eq_true p18001
          replace q18001 := eq_true q18001
          go_wp2
          go_roundg k2
          case measure => have := HJ3.out; have := HK2.out; omega
          case rel => exact ⟨(wrap64 ((wrap64 (31 * x7_2)) + (wrap64 (rd l0 (ji9))))), (wrap64 (x8_2 + 1)), (by first | rfl | (simp; done) | (simp only [← hji9] <;> (first | rfl | simp)) | (simp [*]; done)), rfs, H', ⟨by have := HJ3.out; have := HK2.out; omega⟩, by repeat (first | exact Drawn0.refl _ | apply Drawn0.step)⟩
         ·rw [if_neg c11] at H
          exact absurd H (by simp)
        ·rw [if_neg c10] at H
         exact absurd H (by simp)
      ·rw [if_neg c7] at H
       have c7b0 : decide (x8_2 < 3) = false := decide_eq_false c7
       clear c7
       by_cases c12 : a2 = 0
       ·rw [if_pos c12] at H
        exact absurd H (by simp)
       ·rw [if_neg c12] at H
        have c12b0 : (a2 == 0) = false := beq_eq_false_iff_ne.mpr c12
        have c12b1 : (a2 != 0) = true := bne_iff_ne.mpr c12
        obtain rfl := Option.some.inj H
        go_wp2
        go_ret
        exact ⟨by first | rfl | (simp; done) | (simp [*]; done), by repeat (first | exact Drawn0.refl _ | apply Drawn0.step)⟩
def IsS141 (w0 W : World) (g : Nat) (f0 : List Int) (f1 : Int) (f2 : Int) : Prop := ∃ A0 c0, W.heap[g]? = some (.cells #[.slice A0 f0.length c0, .int .i64 f1, .int .i64 f2] 141 (0, 0)) ∧ w0.heap.size ≤ g ∧ Kd.C (Kd.int .u8) w0 A0 f0.length f0
theorem IsS141.grown {w0 W : World} {g : Nat} {f0 : List Int} {f1 : Int} {f2 : Int} {W1 : World} {row : Option Nat} (h : IsS141 w0 W g f0 f1 f2) (hw : W.grownBy W1 row) (hne : some g ≠ row) : IsS141 w0 W1 g f0 f1 f2 := by
 obtain ⟨A0, c0, hb, hg, hr0⟩ := h
 exact ⟨A0, c0, blk_grown hb hw hne, hg, hr0⟩
theorem IsS141.own_neN {w0 W : World} {g : Nat} {f0 : List Int} {f1 : Int} {f2 : Int} {α : Type} {d : Kd α} {e : Nat} {base : Nat} {ok : Nat → Prop} {v : Value} {xs : List α} (h : IsS141 w0 W g f0 f1 f2) (ho : Kd.N d e W base ok v xs) (ht : e ≠ 141) : some g ≠ v.ownBlock := by
 obtain ⟨A0, c0, hb, hg, hr0⟩ := h
 exact Kd.N_ne ho hb ht
theorem IsS141.fresh {w0 W : World} {g : Nat} {f0 : List Int} {f1 : Int} {f2 : Int} (h : IsS141 w0 W g f0 f1 f2) : ∀ k, W.heap.size ≤ k → k ≠ g := by
 obtain ⟨A0, c0, hb, hg, hr0⟩ := h
 exact Kd.freshB hb
theorem IsS141.kept {w0 W : World} {g : Nat} {f0 : List Int} {f1 : Int} {f2 : Int} {W1 : World} {S : Nat → Prop} (h : IsS141 w0 W g f0 f1 f2) (hk : Kept W W1 S) (hne : ¬ S g) : IsS141 w0 W1 g f0 f1 f2 := by
 obtain ⟨A0, c0, hb, hg, hr0⟩ := h
 exact ⟨A0, c0, blk_kept hb hk hne, hg, hr0⟩
theorem IsS141.below {w0 W : World} {g : Nat} {f0 : List Int} {f1 : Int} {f2 : Int} {W1 : World} (h : IsS141 w0 W g f0 f1 f2) (hw : Below W.heap.size W W1) : IsS141 w0 W1 g f0 f1 f2 := h.grown (grown_of_below hw none) (by simp)
theorem IsS141.alloc {w0 W : World} {g : Nat} {f0 : List Int} {f1 : Int} {f2 : Int} (h : IsS141 w0 W g f0 f1 f2) (o : Obj) : IsS141 w0 (W.alloc o) g f0 f1 f2 := h.below (below_alloc (Below.refl _ _) o)
theorem IsS141.drewN {w0 W : World} {g : Nat} {f0 : List Int} {f1 : Int} {f2 : Int} (h : IsS141 w0 W g f0 f1 f2) (m : Nat) : IsS141 w0 (W.drewN m) g f0 f1 f2 := h
theorem IsS141.drew {w0 W : World} {g : Nat} {f0 : List Int} {f1 : Int} {f2 : Int} (h : IsS141 w0 W g f0 f1 f2) : IsS141 w0 W.drew g f0 f1 f2 := h
theorem IsS141.at_ {w0 W : World} {g : Nat} {f0 : List Int} {f1 : Int} {f2 : Int} {w' : World} {m : Nat} (hq : W.drewN m = w') (h : IsS141 w0 W g f0 f1 f2) : IsS141 w0 w' g f0 f1 f2 := by subst hq; exact IsS141.drewN h m
theorem IsS141.apart {w0 W : World} {g : Nat} {f0 : List Int} {f1 : Int} {f2 : Int} {α : Type} {d : Kd α} {e : Nat} {base : Nat} {ok : Nat → Prop} {v : Value} {xs : List α} (h : IsS141 w0 W g f0 f1 f2) (ho : d.R e W base ok v xs) (ht : ∀ q, q ∈ e :: d.E → q ≠ 141) : d.R e W base (fun k => ok k ∧ k ≠ g) v xs := by
 obtain ⟨A0, c0, hb, hg, hr0⟩ := h
 exact Kd.R_types ho hb ht
theorem IsS141.own_ne {w0 W : World} {g : Nat} {f0 : List Int} {f1 : Int} {f2 : Int} {α : Type} {d : Kd α} {e : Nat} {base : Nat} {ok : Nat → Prop} {v : Value} {xs : List α} (h : IsS141 w0 W g f0 f1 f2) (ho : d.R e W base ok v xs) (ht : e ≠ 141) : some g ≠ v.ownBlock := by
 obtain ⟨A0, c0, hb, hg, hr0⟩ := h
 exact Kd.R_ne ho hb ht
theorem IsS141.apartS {w0 W : World} {g : Nat} {f0 : List Int} {f1 : Int} {f2 : Int} {α : Type} {d : Kd α} {e : Nat} {base : Nat} {ok : Nat → Prop} {v : Value} {xs : List α} (h : IsS141 w0 W g f0 f1 f2) (ho : d.S e W base ok v xs) (ht : ∀ q, q ∈ e :: d.E → q ≠ 141) : d.S e W base (fun k => ok k ∧ k ≠ g) v xs := by
 obtain ⟨A0, c0, hb, hg, hr0⟩ := h
 exact Kd.S_types ho hb ht
theorem IsS141.own_neS {w0 W : World} {g : Nat} {f0 : List Int} {f1 : Int} {f2 : Int} {α : Type} {d : Kd α} {e : Nat} {base : Nat} {ok : Nat → Prop} {v : Value} {xs : List α} (h : IsS141 w0 W g f0 f1 f2) (ho : d.S e W base ok v xs) (ht : e ≠ 141) : some g ≠ v.ownBlock := by
 obtain ⟨A0, c0, hb, hg, hr0⟩ := h
 exact Kd.S_ne ho hb ht
theorem IsS141.lt {w0 W : World} {g : Nat} {f0 : List Int} {f1 : Int} {f2 : Int} (h : IsS141 w0 W g f0 f1 f2) : g < W.heap.size := by
 obtain ⟨A0, c0, hb, hg, hr0⟩ := h
 exact blk_lt hb
theorem IsS141.ge {w0 W : World} {g : Nat} {f0 : List Int} {f1 : Int} {f2 : Int} (h : IsS141 w0 W g f0 f1 f2) : w0.heap.size ≤ g := by
 obtain ⟨A0, c0, hb, hg, hr0⟩ := h
 exact hg
theorem IsS141.far {w0 W : World} {g : Nat} {f0 : List Int} {f1 : Int} {f2 : Int} {p : Addr} (h : IsS141 w0 W g f0 f1 f2) (hne : g ≠ p.block) (u : Value) : IsS141 w0 (W.setCell p u) g f0 f1 f2 := by
 obtain ⟨A0, c0, hb, hg, hr0⟩ := h
 exact ⟨A0, c0, blk_far hb hne u, hg, hr0⟩
theorem cellS141_0 {W : World} {g : Nat} {A0 : Option Addr} {c0 : Nat} {f0 : List Int} {f1 : Int} {f2 : Int} (h : W.heap[g]? = some (.cells #[.slice A0 f0.length c0, .int .i64 f1, .int .i64 f2] 141 (0, 0))) : W.cell? ⟨g, 0, none⟩ = some (.slice A0 f0.length c0) := (blk_cell h 0).trans rfl
theorem cellS141_1 {W : World} {g : Nat} {A0 : Option Addr} {c0 : Nat} {f0 : List Int} {f1 : Int} {f2 : Int} (h : W.heap[g]? = some (.cells #[.slice A0 f0.length c0, .int .i64 f1, .int .i64 f2] 141 (0, 0))) : W.cell? ⟨g, 1, none⟩ = some (.int .i64 f1) := (blk_cell h 1).trans rfl
theorem IsS141.set_1 {w0 W : World} {g : Nat} {f0 : List Int} {f1 : Int} {f2 : Int} (h : IsS141 w0 W g f0 f1 f2) (x : Int) : IsS141 w0 (W.setCell ⟨g, 1, none⟩ (.int .i64 x)) g f0 x f2 := by
 obtain ⟨A0, c0, hb, hg, hr0⟩ := h
 exact ⟨A0, c0, by simpa using blk_set hb 1 (.int .i64 x), hg, hr0⟩
theorem cellS141_2 {W : World} {g : Nat} {A0 : Option Addr} {c0 : Nat} {f0 : List Int} {f1 : Int} {f2 : Int} (h : W.heap[g]? = some (.cells #[.slice A0 f0.length c0, .int .i64 f1, .int .i64 f2] 141 (0, 0))) : W.cell? ⟨g, 2, none⟩ = some (.int .i64 f2) := (blk_cell h 2).trans rfl
theorem IsS141.set_2 {w0 W : World} {g : Nat} {f0 : List Int} {f1 : Int} {f2 : Int} (h : IsS141 w0 W g f0 f1 f2) (x : Int) : IsS141 w0 (W.setCell ⟨g, 2, none⟩ (.int .i64 x)) g f0 f1 x := by
 obtain ⟨A0, c0, hb, hg, hr0⟩ := h
 exact ⟨A0, c0, by simpa using blk_set hb 2 (.int .i64 x), hg, hr0⟩
def spec_l01Open.f (l0 : List Int) : Option (List Int × Int × Int) := some (l0, 0, 97 + ((l0.length : Int) % 1000))
set_option maxHeartbeats 8000000 in
set_option maxRecDepth 100000 in
theorem spec_l01Open.calls (A0 : Option Addr) (c0 : Nat) (l0 : List Int) (r1 : List Int) (r2 : Int) (r3 : Int) (w0 w : World) (hB : Below w0.heap.size w0 w) (hr0 : Kd.C (Kd.int .u8) w0 A0 l0.length l0) (hc0 : l0.length ≤ c0) (h : spec_l01Open.f l0 = some (r1, r2, r3)) :
  Calls Tryd.prog 61 #[.slice A0 l0.length c0] w fun e w' => ∃ g_ : Nat, e = .returned (.pointer (some ⟨g_, 0, none⟩)) ∧ IsS141 w0 w' g_ r1 r2 r3 ∧ Below w0.heap.size w0 w' ∧ Below w.heap.size w w' := by
 have hu141 := Tryd.underlying141
 have HR0 := Aside0.mk hr0
 have HC0 := Aside0.mk hc0
 clear hr0 hc0
 have HBW := Aside0.mk (Below.refl w.heap.size w)
 have HW0 := Aside0.mk hB.size
 have HB := Aside0.mk hB
 clear hB
 have H : (some (l0, 0, 97 + ((l0.length : Int) % 1000))) = some (r1, r2, r3) := h
 clear h
 simp only [Option.some.injEq, Prod.mk.injEq] at H
 obtain ⟨rfl, rfl, rfl⟩ := H
 go_enter Tryd.func61, Tryd.ntmps61
 go_wp2_with (first | ((with_reducible refine gate_dst (N := 9) rfl ?_); refine boxE 9 #[.slice A0 l0.length c0, .int .i64 0, .int .i64 (97 + ((l0.length : Int) % 1000))] 141 ?_; intro gb62001 hg w2 BK62001 hb; have GW62001 := Aside0.mk ((by rw [hg]; exact (below_size (by repeat (first | (with_reducible first | exact HBW.out | apply below_alloc | apply pw_below_drewN | apply below_drew1) | exact HBW.out))) : w.heap.size ≤ gb62001)); have GE62001 := Aside0.mk ((Nat.le_trans HW0.out (by rw [hg]; exact (below_size (by repeat (first | (with_reducible first | exact HBW.out | apply below_alloc | apply pw_below_drewN | apply below_drew1) | exact HBW.out))) : w.heap.size ≤ gb62001) : w0.heap.size ≤ gb62001)); replace HBW := Aside0.mk (below_step HBW.out hb); replace HB := Aside0.mk (below_step hbw hb); clear hb hg))
 go_ret
 exact ⟨_, rfl, (show IsS141 w0 _ gb62001 l0 0 (97 + ((l0.length : Int) % 1000)) from ⟨_, _, by refine pB ?_; exact BK62001.out, GE62001.out, HR0.out⟩), hbs, by repeat (first | (with_reducible first | exact HBW.out | apply below_alloc | apply pw_below_drewN | apply below_drew1 | refine below_set ?_ GW62001.out) | exact HBW.out)⟩
def spec_l01Cur_pick.f (s0_0 : List Int) (s0_1 : Int) (s0_2 : Int) (a1 : Int) : Option (Int × Int × Int) := if a1 < 2 then (some (0, s0_1, s0_2)) else (if s0_1 < (s0_0.length : Int) then (if 0 ≤ s0_1 then (if a1 = 0 then (none) else (some (Int.tmod (wrap64 (rd s0_0 s0_1)) a1, wrap64 (s0_1 + 1), s0_2))) else (none)) else (if (s0_0.length : Int) > 0 then (if (s0_0.length : Int) = 0 then (none) else (if 0 ≤ (Int.tmod s0_1 (s0_0.length : Int)) then (if (Int.tmod s0_1 (s0_0.length : Int)) < (s0_0.length : Int) then (if a1 = 0 then (none) else (some (Int.tmod (wrap64 ((wrap64 (Int.tdiv (Int.tmod (wrap64 ((wrap64 (s0_2 * 1103)) + 12345)) 65521) 7)) + (wrap64 (rd s0_0 (Int.tmod s0_1 (s0_0.length : Int)))))) a1, wrap64 (s0_1 + 1), Int.tmod (wrap64 ((wrap64 (s0_2 * 1103)) + 12345)) 65521))) else (none)) else (none))) else (if a1 = 0 then (none) else (some ((0 : Int) % a1, wrap64 (s0_1 + 1), Int.tmod (wrap64 ((wrap64 (s0_2 * 1103)) + 12345)) 65521)))))
set_option maxHeartbeats 8000000 in
set_option maxRecDepth 100000 in
theorem spec_l01Cur_pick.calls (g : Nat) (s0_0 : List Int) (s0_1 : Int) (s0_2 : Int) (a1 : Int) (r1 : Int) (r2 : Int) (r3 : Int) (w0 w : World) (hI : IsS141 w0 w g s0_0 s0_1 s0_2) (hB : Below w0.heap.size w0 w) (h : spec_l01Cur_pick.f s0_0 s0_1 s0_2 a1 = some (r1, r2, r3)) :
  Calls Tryd.prog 64 #[.pointer (some ⟨g, 0, none⟩), .int .i64 a1] w fun e w' => e = .returned (.int .i64 r1) ∧ IsS141 w0 w' g s0_0 r2 r3 ∧ Below w0.heap.size w0 w' ∧ KeepBut w w' g none := by
 have HI0 := Aside0.mk hI
 have HK := Aside0.mk (KeepBut.refl w g none)
 have HL := Aside0.mk hB.size
 clear hI
 have HW0 := Aside0.mk hB.size
 have HB := Aside0.mk hB
 clear hB
 have H : (if a1 < 2 then (some (0, s0_1, s0_2)) else (if s0_1 < (s0_0.length : Int) then (if 0 ≤ s0_1 then (if a1 = 0 then (none) else (some (Int.tmod (wrap64 (rd s0_0 s0_1)) a1, wrap64 (s0_1 + 1), s0_2))) else (none)) else (if (s0_0.length : Int) > 0 then (if (s0_0.length : Int) = 0 then (none) else (if 0 ≤ (Int.tmod s0_1 (s0_0.length : Int)) then (if (Int.tmod s0_1 (s0_0.length : Int)) < (s0_0.length : Int) then (if a1 = 0 then (none) else (some (Int.tmod (wrap64 ((wrap64 (Int.tdiv (Int.tmod (wrap64 ((wrap64 (s0_2 * 1103)) + 12345)) 65521) 7)) + (wrap64 (rd s0_0 (Int.tmod s0_1 (s0_0.length : Int)))))) a1, wrap64 (s0_1 + 1), Int.tmod (wrap64 ((wrap64 (s0_2 * 1103)) + 12345)) 65521))) else (none)) else (none))) else (if a1 = 0 then (none) else (some ((0 : Int) % a1, wrap64 (s0_1 + 1), Int.tmod (wrap64 ((wrap64 (s0_2 * 1103)) + 12345)) 65521)))))) = some (r1, r2, r3) := h
 clear h
 by_cases c3 : a1 < 2
 ·rw [if_pos c3] at H
  have c3b0 : decide (a1 < 2) = true := decide_eq_true c3
  clear c3
  simp only [Option.some.injEq, Prod.mk.injEq] at H
  obtain ⟨rfl, rfl, rfl⟩ := H
  go_enter Tryd.func64, Tryd.ntmps64
  go_wp2
  repeat (go_quiet (fail); try go_wp2)
  go_ret
  exact ⟨erf, pIIsS141 HI0, hbIsS141, hkk⟩
 ·rw [if_neg c3] at H
  have c3b0 : decide (a1 < 2) = false := decide_eq_false c3
  clear c3
  by_cases c4 : s0_1 < (s0_0.length : Int)
  ·rw [if_pos c4] at H
   have c4b0 : decide (s0_1 < (s0_0.length : Int)) = true := decide_eq_true c4
   clear c4
   by_cases c5 : 0 ≤ s0_1
   ·rw [if_pos c5] at H
    have c5b0 : decide (0 ≤ s0_1) = true := decide_eq_true c5
    clear c5
    by_cases c6 : a1 = 0
    ·rw [if_pos c6] at H
     exact absurd H (by simp)
    ·rw [if_neg c6] at H
     have c6b0 : (a1 == 0) = false := beq_eq_false_iff_ne.mpr c6
     have c6b1 : (a1 != 0) = true := bne_iff_ne.mpr c6
     simp only [Option.some.injEq, Prod.mk.injEq] at H
     obtain ⟨rfl, rfl, rfl⟩ := H
     obtain ⟨ASz7_0, cSz7_0, HGz7, hgz7, HSz7_0⟩ := HI0.out
     have hcz7_0 := cellS141_0 HGz7
     have hcz7_1 := cellS141_1 HGz7
     have hcz7_2 := cellS141_2 HGz7
     have hfz7_1 := blk_frozen HGz7 1
     have hfz7_2 := blk_frozen HGz7 2
     clear HGz7 hgz7
     have p65001 : 0 ≤ (s0_1 : Int) := odt
     have q65001 : s0_1 < (s0_0.length : Int) := odt
     obtain ⟨ad65001, e65001, hx65001_0⟩ := Kd.at_int HSz7_0 s0_1 p65001 q65001
     cases e65001
     replace hx65001_0 := pw_cell_below HB.out hx65001_0
     replace p65001 := eq_true p65001
     replace q65001 := eq_true q65001
     go_enter Tryd.func64, Tryd.ntmps64
     go_wp2
     repeat (go_quiet (fail); try go_wp2)
     go_ret
     exact ⟨erf, pIIsS141 HI0, hbIsS141, hkk⟩
   ·rw [if_neg c5] at H
    exact absurd H (by simp)
  ·rw [if_neg c4] at H
   have c4b0 : decide (s0_1 < (s0_0.length : Int)) = false := decide_eq_false c4
   clear c4
   by_cases c8 : (s0_0.length : Int) > 0
   ·rw [if_pos c8] at H
    have c8b0 : decide (0 < (s0_0.length : Int)) = true := decide_eq_true c8
    have c8b1 : decide (0 < s0_0.length) = true := decide_eq_true (by omega)
    clear c8
    by_cases c9 : (s0_0.length : Int) = 0
    ·rw [if_pos c9] at H
     exact absurd H (by simp)
    ·rw [if_neg c9] at H
     have c9b0 : ((s0_0.length : Int) == 0) = false := beq_eq_false_iff_ne.mpr c9
     have c9b1 : ((s0_0.length : Int) != 0) = true := bne_iff_ne.mpr c9
     have c9b2 : ¬ (s0_0 = []) := fun h_ => c9 (by rw [h_]; rfl)
     obtain ⟨ji10, hji10⟩ : ∃ j_ : Int, (Int.tmod s0_1 (s0_0.length : Int)) = j_ := ⟨_, rfl⟩
     replace H : (if 0 ≤ (ji10) then (if (ji10) < (s0_0.length : Int) then (if a1 = 0 then (none) else (some (Int.tmod (wrap64 ((wrap64 (Int.tdiv (Int.tmod (wrap64 ((wrap64 (s0_2 * 1103)) + 12345)) 65521) 7)) + (wrap64 (rd s0_0 (ji10))))) a1, wrap64 (s0_1 + 1), Int.tmod (wrap64 ((wrap64 (s0_2 * 1103)) + 12345)) 65521))) else (none)) else (none)) = some (r1, r2, r3) := by first | (rw [hji10] at H; exact H) | (simp only [hji10] at H ⊢; exact H)
     by_cases c11 : 0 ≤ (ji10)
     ·rw [if_pos c11] at H
      have c11b0 : decide (0 ≤ (ji10)) = true := decide_eq_true c11
      clear c11
      by_cases c12 : (ji10) < (s0_0.length : Int)
      ·rw [if_pos c12] at H
       have c12b0 : decide ((ji10) < (s0_0.length : Int)) = true := decide_eq_true c12
       clear c12
       by_cases c13 : a1 = 0
       ·rw [if_pos c13] at H
        exact absurd H (by simp)
       ·rw [if_neg c13] at H
        have c13b0 : (a1 == 0) = false := beq_eq_false_iff_ne.mpr c13
        have c13b1 : (a1 != 0) = true := bne_iff_ne.mpr c13
        simp only [Option.some.injEq, Prod.mk.injEq] at H
        obtain ⟨rfl, rfl, rfl⟩ := H
        obtain ⟨ASz14_0, cSz14_0, HGz14, hgz14, HSz14_0⟩ := HI0.out
        have hcz14_0 := cellS141_0 HGz14
        have hcz14_1 := cellS141_1 HGz14
        have hcz14_2 := cellS141_2 HGz14
        have hfz14_1 := blk_frozen HGz14 1
        have hfz14_2 := blk_frozen HGz14 2
        clear HGz14 hgz14
        have p65002 : 0 ≤ ((ji10) : Int) := odt
        have q65002 : (ji10) < (s0_0.length : Int) := odt
        obtain ⟨ad65002, e65002, hx65002_0⟩ := Kd.at_int HSz14_0 (ji10) p65002 q65002
        cases e65002
        have hn65002_0 : ad65002.block ≠ g := Nat.ne_of_lt (Nat.lt_of_lt_of_le (by have := World.block_lt_of_cell? _ _ hx65002_0; first | rwa [add_block] at this | exact this) (IsS141.ge HI0.out))
        replace hx65002_0 := pw_cell_below HB.out hx65002_0
        replace hx65002_0 := (cell_far (p := ⟨g, 2, none⟩) (by first | (rw [add_block]; exact hn65002_0) | (show (Addr.add _ _).block ≠ _; rw [add_block]; exact hn65002_0) | exact hn65002_0) (.int .i64 (Int.tmod (wrap64 ((wrap64 (s0_2 * 1103)) + 12345)) 65521))).trans hx65002_0
        (try have hy65002_0 := fun (n_ : Nat) => (show (((w.drewN n_).setCell ⟨g, 2, none⟩ (.int .i64 (Int.tmod (wrap64 ((wrap64 (s0_2 * 1103)) + 12345)) 65521)))).cell? _ = some _ from hx65002_0))
        clear hn65002_0
        replace p65002 := eq_true p65002
        replace q65002 := eq_true q65002
        go_enter Tryd.func64, Tryd.ntmps64
        go_wp2
        repeat (go_quiet (fail); try go_wp2)
        go_ret
        exact ⟨by first | rfl | (simp [errW_none, errW_some] <;> rfl) | (simp only [← hji10]; first | rfl | (simp [errW_none, errW_some] <;> rfl)) | (simp [*, errW_none, errW_some] <;> rfl), pIIsS141 HI0, hbIsS141, hkk⟩
      ·rw [if_neg c12] at H
       exact absurd H (by simp)
     ·rw [if_neg c11] at H
      exact absurd H (by simp)
   ·rw [if_neg c8] at H
    have c8b0 : decide (0 < (s0_0.length : Int)) = false := decide_eq_false c8
    have c8b1 : decide (0 < s0_0.length) = false := decide_eq_false (by omega)
    clear c8
    by_cases c15 : a1 = 0
    ·rw [if_pos c15] at H
     exact absurd H (by simp)
    ·rw [if_neg c15] at H
     have c15b0 : (a1 == 0) = false := beq_eq_false_iff_ne.mpr c15
     have c15b1 : (a1 != 0) = true := bne_iff_ne.mpr c15
     simp only [Option.some.injEq, Prod.mk.injEq] at H
     obtain ⟨rfl, rfl, rfl⟩ := H
     obtain ⟨ASz16_0, cSz16_0, HGz16, hgz16, HSz16_0⟩ := HI0.out
     have hcz16_0 := cellS141_0 HGz16
     have hcz16_1 := cellS141_1 HGz16
     have hcz16_2 := cellS141_2 HGz16
     have hfz16_1 := blk_frozen HGz16 1
     have hfz16_2 := blk_frozen HGz16 2
     clear HGz16 hgz16
     go_enter Tryd.func64, Tryd.ntmps64
     go_wp2
     repeat (go_quiet (fail); try go_wp2)
     go_ret
     exact ⟨erf, pIIsS141 HI0, hbIsS141, hkk⟩
def spec_l01Cur_size.f (s0_0 : List Int) (s0_1 : Int) (s0_2 : Int) (a1 : Int) : Option (Int × Int × Int) := (spec_l01Cur_pick.f s0_0 s0_1 s0_2 (wrap64 ((mn a1 (wrap64 (1 + (wrap64 ((s0_0.length : Int) / 8))))) + 1))).bind fun bt119001 => (some (bt119001.1, bt119001.2.1, bt119001.2.2))
set_option maxHeartbeats 8000000 in
set_option maxRecDepth 100000 in
theorem spec_l01Cur_size.calls (g : Nat) (s0_0 : List Int) (s0_1 : Int) (s0_2 : Int) (a1 : Int) (r1 : Int) (r2 : Int) (r3 : Int) (w0 w : World) (hI : IsS141 w0 w g s0_0 s0_1 s0_2) (hB : Below w0.heap.size w0 w) (h : spec_l01Cur_size.f s0_0 s0_1 s0_2 a1 = some (r1, r2, r3)) :
  Calls Tryd.prog 118 #[.pointer (some ⟨g, 0, none⟩), .int .i64 a1] w fun e w' => e = .returned (.int .i64 r1) ∧ IsS141 w0 w' g s0_0 r2 r3 ∧ Below w0.heap.size w0 w' ∧ KeepBut w w' g none := by
 have HI0 := Aside0.mk hI
 have HK := Aside0.mk (KeepBut.refl w g none)
 have HL := Aside0.mk hB.size
 clear hI
 have HW0 := Aside0.mk hB.size
 have HB := Aside0.mk hB
 clear hB
 have H : ((spec_l01Cur_pick.f s0_0 s0_1 s0_2 (wrap64 ((mn a1 (wrap64 (1 + (wrap64 ((s0_0.length : Int) / 8))))) + 1))).bind fun bt119001 => (some (bt119001.1, bt119001.2.1, bt119001.2.2))) = some (r1, r2, r3) := h
 clear h
 obtain ⟨ji3, hji3⟩ : ∃ j_ : Int, (mn a1 (wrap64 (1 + (wrap64 ((s0_0.length : Int) / 8))))) = j_ := ⟨_, rfl⟩
 replace H : ((spec_l01Cur_pick.f s0_0 s0_1 s0_2 (wrap64 ((ji3) + 1))).bind fun bt119001 => (some (bt119001.1, bt119001.2.1, bt119001.2.2))) = some (r1, r2, r3) := by first | (rw [hji3] at H; exact H) | (simp only [hji3] at H ⊢; exact H)
 have hji3_ : (if (wrap64 (1 + (wrap64 ((s0_0.length : Int) / 8)))) < a1 then (wrap64 (1 + (wrap64 ((s0_0.length : Int) / 8)))) else a1) = ji3 := hji3
 replace H := Option.bind_eq_some_iff.mp H
 obtain ⟨⟨t119001, t119002, t119003⟩, A40, H⟩ := H
 replace H : (some (t119001, t119002, t119003)) = some (r1, r2, r3) := H
 have A4 := Aside0.mk A40
 clear A40
 simp only [Option.some.injEq, Prod.mk.injEq] at H
 obtain ⟨rfl, rfl, rfl⟩ := H
 obtain ⟨ASz5_0, cSz5_0, HGz5, hgz5, HSz5_0⟩ := HI0.out
 have hcz5_0 := cellS141_0 HGz5
 have hcz5_1 := cellS141_1 HGz5
 have hcz5_2 := cellS141_2 HGz5
 have hfz5_1 := blk_frozen HGz5 1
 have hfz5_2 := blk_frozen HGz5 2
 clear HGz5 hgz5
 go_enter Tryd.func118, Tryd.ntmps118
 go_wp2_with (first | ((with_reducible refine gate_callee (f := 64) rfl ?_); refine goesL_ (some 16) rfl rfl Tryd.func64 (by kernel_rfl) rfl #[.pointer (some ⟨g, 0, none⟩), .int .i64 (wrap64 ((ji3) + 1))] rfl (by (try simp only [List.map_toArray, List.map_cons, List.map_nil]); first | done | (simp only [hji3]; rfl) | rfl | (simp only [List.length_drop, List.length_take]; rfl)) ?_; (with_reducible refine (spec_l01Cur_pick.calls g s0_0 s0_1 s0_2 (wrap64 ((ji3) + 1)) t119001 t119002 t119003 w0 _ ?side1 ?side2 A4.out).mono ?_); (case side1 => exact pIIsS141 HI0); (case side2 => exact hbIsS141); rintro e w6 ⟨rfl, hi, hb, hk⟩; refine ⟨_, rfl, ?_⟩; replace HK := Aside0.mk (KeepBut.trans hkk hk (.inl rfl)); replace HB := Aside0.mk (hb); replace HI0 := Aside0.mk (hi); (try clear hb); (try clear hb2); (try clear hk); (try clear hi)))
 go_ret
 exact ⟨by first | rfl | (simp [errW_none, errW_some] <;> rfl) | (simp only [← hji3]; first | rfl | (simp [errW_none, errW_some] <;> rfl)) | (simp [*, errW_none, errW_some] <;> rfl), pIIsS141 HI0, hbIsS141, hkk⟩
end Go.Proofs.YteapbiiffcchbaaDoor.P
namespace Go.Proofs.YteapbiiffcchbaaDoor.G
open Go.RowKit Go.Proofs.YteapbiiffcchbaaDoorW.PrintWords Go.Proofs.YteapbiiffcchbaaDoorW.PrintLast Go.Proofs.YteapbiiffcchbaaDoorW.PrintMore Go.Proofs.YteapbiiffcchbaaDoor.P
set_option linter.unusedVariables false
def bz (n m : Nat) : Array Bool := ((List.range n).map fun i => m.testBit i).toArray
section
variable {P : Program} {md : Region.Mode} {ops : Array Oper} {Q : Exit → Act → World → Prop} {S : World → Prop} {ds : List Nat}
theorem takeM {fuel : Nat} {l : Array Bool} {a : Act} {w : World} (i : Nat) (N : Option Tmp) (l' : Array Bool) (hc : takeB md ops ds l l' i = true) (hS : S w) {oi : Oper} {v : Value} {a' : Act} (h : wpAnyLast P md ops Q S ds fuel l' a' w)
    (hi : ops[i]? = some oi := by exact rfl) (hN : oi.dst = N := by exact rfl) (hQ : ∀ c a w, Q (.panic c) (a.put oi.dst v) w → Q (.panic c) a w := by exact fun _ _ _ h => h)
    (hy : YieldsIf P ops S oi v a := by refine Or.inl ⟨by rfl, ?_⟩; intro w' hs_; go_simp; with_reducible rfl) (ha : a.put N v = a' := by simp only [Act.put, List.setIfInBounds_toArray, List.set_cons_zero, List.set_cons_succ, i64_w, i32_w]; rfl) : wpAnyLast P md ops Q S ds (fuel + 1) l a w :=
  take_ l' hi hN hc hQ hy hS ha h
end
end Go.Proofs.YteapbiiffcchbaaDoor.G
namespace Go.Proofs.YteapbiiffcchbaaDoor.P
open Go.Proofs.YteapbiiffcchbaaDoor.G
open Go.RowKit Go.Proofs.YteapbiiffcchbaaDoorW.PrintWords Go.Proofs.YteapbiiffcchbaaDoorW.PrintLast Go.Proofs.YteapbiiffcchbaaDoorW.PrintMore
attribute [local go_sem] max2_int min2_int max_two min_two max_three min_three max_four min_four
set_option linter.unusedVariables false
set_option linter.unusedSimpArgs false
def spec_RuneBytes.j0 : Nat → Int → Bool → Option (List Int)
 | 0, _, _ => none
 | k + 1, x0, x3 => if x3 = true then (some ([] : List Int)) else (if x0 < 128 then (some (([(x0) % 256] : List Int))) else (if x0 < 2048 then (some (([(wrap64 (192 + (wrap64 (Int.tdiv x0 64)))) % 256, (wrap64 (128 + (Int.tmod x0 64))) % 256] : List Int))) else (if x0 < 65536 then (some (([(wrap64 (224 + (wrap64 (Int.tdiv x0 4096)))) % 256, (wrap64 (128 + (Int.tmod (wrap64 (Int.tdiv x0 64)) 64))) % 256, (wrap64 (128 + (Int.tmod x0 64))) % 256] : List Int))) else (some (([(wrap64 (240 + (wrap64 (Int.tdiv x0 262144)))) % 256, (wrap64 (128 + (Int.tmod (wrap64 (Int.tdiv x0 4096)) 64))) % 256, (wrap64 (128 + (Int.tmod (wrap64 (Int.tdiv x0 64)) 64))) % 256, (wrap64 (128 + (Int.tmod x0 64))) % 256] : List Int))))))
def spec_RuneBytes.f (k : Nat) (a0 : Int) : Option (List Int) := if a0 < 0 then (spec_RuneBytes.j0 k a0 true) else (if a0 > 1114111 then (spec_RuneBytes.j0 k a0 true) else (if a0 ≥ 55296 then (spec_RuneBytes.j0 k a0 (decide (a0 ≤ 57343))) else (spec_RuneBytes.j0 k a0 false)))
theorem spec_RuneBytes.mono_l : ∀ k, (∀ y0 y1, LeO (spec_RuneBytes.j0 k y0 y1) (spec_RuneBytes.j0 (k + 1) y0 y1))
 | 0 => fun _ _ r h => by simp [spec_RuneBytes.j0] at h
 | k + 1 => by
  have ih0 := spec_RuneBytes.mono_l k
  ·intro y0 y1
   unfold spec_RuneBytes.j0
   repeat' first
   | (with_reducible exact ih0 _ _)
   | (with_reducible exact LeO.refl _)
   | (with_reducible exact LeO.none _)
   | (with_reducible refine LeO.ite ?_ ?_)
   | (with_reducible refine LeO.bind ?_ (fun _ => ?_))
   | exact ih0 _ _
   | exact LeO.none _
   | refine LeO.ite ?_ ?_
   | refine LeO.bind ?_ (fun _ => ?_)
theorem spec_RuneBytes.mono : ∀ a0 k, LeO (spec_RuneBytes.f k a0) (spec_RuneBytes.f (k + 1) a0) := by
 intro a0 k
 have ih0 := spec_RuneBytes.mono_l k
 unfold spec_RuneBytes.f
 repeat' first
   | (with_reducible exact ih0 _ _)
   | (with_reducible exact LeO.refl _)
   | (with_reducible exact LeO.none _)
   | (with_reducible refine LeO.ite ?_ ?_)
   | (with_reducible refine LeO.bind ?_ (fun _ => ?_))
   | exact ih0 _ _
   | exact LeO.none _
   | refine LeO.ite ?_ ?_
   | refine LeO.bind ?_ (fun _ => ?_)
set_option maxHeartbeats 8000000 in
set_option maxRecDepth 100000 in
theorem spec_RuneBytes.calls (k : Nat) (a0 : Int) (r : List Int) (w : World) (h : spec_RuneBytes.f k a0 = some r) :
  Calls Tryd.prog 119 #[.int .i64 a0] w fun e w' => ∃ v0_ : Value, e = .returned (v0_) ∧ Kd.R (Kd.int .u8) 5 w' w.heap.size (fun _ => True) v0_ r ∧ Below w.heap.size w w' := by
 have HB := Aside0.mk (Below.refl w.heap.size w)
 have H : (if a0 < 0 then (spec_RuneBytes.j0 k a0 true) else (if a0 > 1114111 then (spec_RuneBytes.j0 k a0 true) else (if a0 ≥ 55296 then (spec_RuneBytes.j0 k a0 (decide (a0 ≤ 57343))) else (spec_RuneBytes.j0 k a0 false)))) = some r := h
 clear h
 have HC2 := Aside0.mk H
 clear H
 go_enter Tryd.func119, Tryd.ntmps119
 go_upto_region 1 with (fail)
 go_cut [3] (fun v3 wc => ∃ (kq : Nat) (x3_1 : Bool), v3 = .bool x3_1 ∧ Aside0 (spec_RuneBytes.j0 kq a0 x3_1 = some r) ∧ Aside0 (kq ≤ k) ∧ Aside0 (Below w.heap.size w wc))
 case first =>
  have H := HC2.out
  clear HC2
  by_cases c3 : a0 < 0
  ·rw [if_pos c3] at H
   have c3b0 : decide (a0 < 0) = true := decide_eq_true c3
   clear c3
   (first | rw [c3b0] | (simp only [i64_w, i32_w]; rw [c3b0]) | skip)
   have H' := Aside0.mk H
   clear H
   go_wp2
   go_meet
   case rel => exact ⟨_, (true), rfs, H', ⟨by first | omega | exact Nat.le_refl _⟩, ⟨hbw⟩⟩
  ·rw [if_neg c3] at H
   have c3b0 : decide (a0 < 0) = false := decide_eq_false c3
   clear c3
   (first | rw [c3b0] | (simp only [i64_w, i32_w]; rw [c3b0]) | skip)
   by_cases c4 : a0 > 1114111
   ·rw [if_pos c4] at H
    have c4b0 : decide (1114111 < a0) = true := decide_eq_true c4
    clear c4
    have H' := Aside0.mk H
    clear H
    go_wp2
    go_meet
    case rel => exact ⟨_, (true), rfs, H', ⟨by first | omega | exact Nat.le_refl _⟩, ⟨hbw⟩⟩
   ·rw [if_neg c4] at H
    have c4b0 : decide (1114111 < a0) = false := decide_eq_false c4
    clear c4
    by_cases c5 : a0 ≥ 55296
    ·rw [if_pos c5] at H
     have c5b0 : decide (55296 ≤ a0) = true := decide_eq_true c5
     clear c5
     have H' := Aside0.mk H
     clear H
     go_wp2
     go_meet
     case rel => exact ⟨_, (decide (a0 ≤ 57343)), rfs, H', ⟨by first | omega | exact Nat.le_refl _⟩, ⟨hbw⟩⟩
    ·rw [if_neg c5] at H
     have c5b0 : decide (55296 ≤ a0) = false := decide_eq_false c5
     clear c5
     have H' := Aside0.mk H
     clear H
     go_wp2
     go_meet
     case rel => exact ⟨_, (false), rfs, H', ⟨by first | omega | exact Nat.le_refl _⟩, ⟨hbw⟩⟩
 case rest =>
  clear HC2
  try clear c1
  try clear p2
  try clear c3
  try clear c3b0
  try clear c4
  try clear c4b0
  try clear c5
  try clear c5b0
  obtain ⟨kq, x3_1, rfl, HA, HJ1, HB⟩ := hcut
  cases kq with
  | zero => exact absurd HA.out (by simp [spec_RuneBytes.j0])
  | succ kj1 =>
   have H := HA.out
   clear HA
   simp only [spec_RuneBytes.j0] at H
   by_cases c6 : x3_1 = true
   ·subst c6
    have H1 : (some ([] : List Int)) = some r := by rw [if_pos rfl] at H; exact H
    clear H
    have H := H1
    clear H1
    obtain rfl := Option.some.inj H
    go_wp2
    go_ret
    exact ⟨_, erf, by first | exact Kd.R_nil _ _ _ _ _ | exact Kd.N_nil _ _ _ _ _ | exact Kd.V_nil _ _ _ _ _ | exact Kd.Q_nil _ _ _ _ _ | exact Kd.S_nil _ _ _ _ _, hbw⟩
   ·replace c6 := Bool.eq_false_iff.mpr c6
    subst c6
    have H1 : (if a0 < 128 then (some (([(a0) % 256] : List Int))) else (if a0 < 2048 then (some (([(wrap64 (192 + (wrap64 (Int.tdiv a0 64)))) % 256, (wrap64 (128 + (Int.tmod a0 64))) % 256] : List Int))) else (if a0 < 65536 then (some (([(wrap64 (224 + (wrap64 (Int.tdiv a0 4096)))) % 256, (wrap64 (128 + (Int.tmod (wrap64 (Int.tdiv a0 64)) 64))) % 256, (wrap64 (128 + (Int.tmod a0 64))) % 256] : List Int))) else (some (([(wrap64 (240 + (wrap64 (Int.tdiv a0 262144)))) % 256, (wrap64 (128 + (Int.tmod (wrap64 (Int.tdiv a0 4096)) 64))) % 256, (wrap64 (128 + (Int.tmod (wrap64 (Int.tdiv a0 64)) 64))) % 256, (wrap64 (128 + (Int.tmod a0 64))) % 256] : List Int)))))) = some r := by rw [if_neg (show ¬ (false = true) by decide)] at H; exact H
    clear H
    have H := H1
    clear H1
    by_cases c7 : a0 < 128
    ·rw [if_pos c7] at H
     have c7b0 : decide (a0 < 128) = true := decide_eq_true c7
     clear c7
     obtain ⟨y120001, hy120001⟩ : ∃ y_ : List Int, y_ = (([(a0) % 256] : List Int)) := ⟨_, rfl⟩
     replace H : (some y120001) = some r := repH hy120001 H
     have Ny120001 := Aside0.mk hy120001
     clear hy120001
     obtain rfl := Option.some.inj H
     go_wp2_with (first | ((with_reducible refine gate_dst (N := 23) rfl ?_); refine Kd.R_lit (Kd.int .u8) _ 5 ?hg (N := 23) ?hd (xs := ([(a0) % 256] : List Int)) (inner := [.int .u8 ((a0) % 256)]) (ok := fun _ => True) (okp := fun _ => True) ?hr ?hp (fun _ hk => hk) trivial (Below.refl _ _) (Nat.le_refl _) (by simp) ?_; (case hd => rfl); (case hg => rfl); (case hr => first | (go_simp; done) | (go_simp; rfl)); (case hp => exact (Reps.one (show Kd.M (Kd.int .u8) _ _ _ ((a0) % 256) [.int .u8 ((a0) % 256)] from rfl) (Reps.none _ _))); intro v120002 w8 ho9 hb hg_ hnew_; clear hg_ hnew_; (first | rw [← Ny120001.out] at ho9 | (simp only [Int.reduceToNat] at ho9; rw [← Ny120001.out] at ho9)); have HO120003 := Aside0.mk (Kd.R_lower ho9 (below_size hbw)); replace HB := Aside0.mk (below_step hbw hb); clear hb ho9))
     go_ret
     exact ⟨_, erf, (hrnR HO120003), hbw⟩
    ·rw [if_neg c7] at H
     have c7b0 : decide (a0 < 128) = false := decide_eq_false c7
     clear c7
     by_cases c10 : a0 < 2048
     ·rw [if_pos c10] at H
      have c10b0 : decide (a0 < 2048) = true := decide_eq_true c10
      clear c10
      obtain ⟨y120004, hy120004⟩ : ∃ y_ : List Int, y_ = (([(wrap64 (192 + (wrap64 (Int.tdiv a0 64)))) % 256, (wrap64 (128 + (Int.tmod a0 64))) % 256] : List Int)) := ⟨_, rfl⟩
      replace H : (some y120004) = some r := repH hy120004 H
      have Ny120004 := Aside0.mk hy120004
      clear hy120004
      obtain rfl := Option.some.inj H
      go_wp2_with (first | ((with_reducible refine gate_dst (N := 35) rfl ?_); refine Kd.R_lit (Kd.int .u8) _ 5 ?hg (N := 35) ?hd (xs := ([(wrap64 (192 + (wrap64 (Int.tdiv a0 64)))) % 256, (wrap64 (128 + (Int.tmod a0 64))) % 256] : List Int)) (inner := [.int .u8 ((wrap64 (192 + (wrap64 (Int.tdiv a0 64)))) % 256), .int .u8 ((wrap64 (128 + (Int.tmod a0 64))) % 256)]) (ok := fun _ => True) (okp := fun _ => True) ?hr ?hp (fun _ hk => hk) trivial (Below.refl _ _) (Nat.le_refl _) (by simp) ?_; (case hd => rfl); (case hg => rfl); (case hr => first | (go_simp; done) | (go_simp; rfl)); (case hp => exact (Reps.one (show Kd.M (Kd.int .u8) _ _ _ ((wrap64 (192 + (wrap64 (Int.tdiv a0 64)))) % 256) [.int .u8 ((wrap64 (192 + (wrap64 (Int.tdiv a0 64)))) % 256)] from rfl) (Reps.one (show Kd.M (Kd.int .u8) _ _ _ ((wrap64 (128 + (Int.tmod a0 64))) % 256) [.int .u8 ((wrap64 (128 + (Int.tmod a0 64))) % 256)] from rfl) (Reps.none _ _)))); intro v120005 w11 ho12 hb hg_ hnew_; clear hg_ hnew_; (first | rw [← Ny120004.out] at ho12 | (simp only [Int.reduceToNat] at ho12; rw [← Ny120004.out] at ho12)); have HO120006 := Aside0.mk (Kd.R_lower ho12 (below_size hbw)); replace HB := Aside0.mk (below_step hbw hb); clear hb ho12))
      go_ret
      exact ⟨_, erf, (hrnR HO120006), hbw⟩
     ·rw [if_neg c10] at H
      have c10b0 : decide (a0 < 2048) = false := decide_eq_false c10
      clear c10
      by_cases c13 : a0 < 65536
      ·rw [if_pos c13] at H
       have c13b0 : decide (a0 < 65536) = true := decide_eq_true c13
       clear c13
       obtain ⟨y120007, hy120007⟩ : ∃ y_ : List Int, y_ = (([(wrap64 (224 + (wrap64 (Int.tdiv a0 4096)))) % 256, (wrap64 (128 + (Int.tmod (wrap64 (Int.tdiv a0 64)) 64))) % 256, (wrap64 (128 + (Int.tmod a0 64))) % 256] : List Int)) := ⟨_, rfl⟩
       replace H : (some y120007) = some r := repH hy120007 H
       have Ny120007 := Aside0.mk hy120007
       clear hy120007
       obtain rfl := Option.some.inj H
       go_wp2_with (first | ((with_reducible refine gate_dst (N := 52) rfl ?_); refine Kd.R_lit (Kd.int .u8) _ 5 ?hg (N := 52) ?hd (xs := ([(wrap64 (224 + (wrap64 (Int.tdiv a0 4096)))) % 256, (wrap64 (128 + (Int.tmod (wrap64 (Int.tdiv a0 64)) 64))) % 256, (wrap64 (128 + (Int.tmod a0 64))) % 256] : List Int)) (inner := [.int .u8 ((wrap64 (224 + (wrap64 (Int.tdiv a0 4096)))) % 256), .int .u8 ((wrap64 (128 + (Int.tmod (wrap64 (Int.tdiv a0 64)) 64))) % 256), .int .u8 ((wrap64 (128 + (Int.tmod a0 64))) % 256)]) (ok := fun _ => True) (okp := fun _ => True) ?hr ?hp (fun _ hk => hk) trivial (Below.refl _ _) (Nat.le_refl _) (by simp) ?_; (case hd => rfl); (case hg => rfl); (case hr => first | (go_simp; done) | (go_simp; rfl)); (case hp => exact (Reps.one (show Kd.M (Kd.int .u8) _ _ _ ((wrap64 (224 + (wrap64 (Int.tdiv a0 4096)))) % 256) [.int .u8 ((wrap64 (224 + (wrap64 (Int.tdiv a0 4096)))) % 256)] from rfl) (Reps.one (show Kd.M (Kd.int .u8) _ _ _ ((wrap64 (128 + (Int.tmod (wrap64 (Int.tdiv a0 64)) 64))) % 256) [.int .u8 ((wrap64 (128 + (Int.tmod (wrap64 (Int.tdiv a0 64)) 64))) % 256)] from rfl) (Reps.one (show Kd.M (Kd.int .u8) _ _ _ ((wrap64 (128 + (Int.tmod a0 64))) % 256) [.int .u8 ((wrap64 (128 + (Int.tmod a0 64))) % 256)] from rfl) (Reps.none _ _))))); intro v120008 w14 ho15 hb hg_ hnew_; clear hg_ hnew_; (first | rw [← Ny120007.out] at ho15 | (simp only [Int.reduceToNat] at ho15; rw [← Ny120007.out] at ho15)); have HO120009 := Aside0.mk (Kd.R_lower ho15 (below_size hbw)); replace HB := Aside0.mk (below_step hbw hb); clear hb ho15))
       go_ret
       exact ⟨_, erf, (hrnR HO120009), hbw⟩
      ·rw [if_neg c13] at H
       have c13b0 : decide (a0 < 65536) = false := decide_eq_false c13
       clear c13
       obtain ⟨y120010, hy120010⟩ : ∃ y_ : List Int, y_ = (([(wrap64 (240 + (wrap64 (Int.tdiv a0 262144)))) % 256, (wrap64 (128 + (Int.tmod (wrap64 (Int.tdiv a0 4096)) 64))) % 256, (wrap64 (128 + (Int.tmod (wrap64 (Int.tdiv a0 64)) 64))) % 256, (wrap64 (128 + (Int.tmod a0 64))) % 256] : List Int)) := ⟨_, rfl⟩
       replace H : (some y120010) = some r := repH hy120010 H
       have Ny120010 := Aside0.mk hy120010
       clear hy120010
       obtain rfl := Option.some.inj H
       go_wp2_with (first | ((with_reducible refine gate_dst (N := 71) rfl ?_); refine Kd.R_lit (Kd.int .u8) _ 5 ?hg (N := 71) ?hd (xs := ([(wrap64 (240 + (wrap64 (Int.tdiv a0 262144)))) % 256, (wrap64 (128 + (Int.tmod (wrap64 (Int.tdiv a0 4096)) 64))) % 256, (wrap64 (128 + (Int.tmod (wrap64 (Int.tdiv a0 64)) 64))) % 256, (wrap64 (128 + (Int.tmod a0 64))) % 256] : List Int)) (inner := [.int .u8 ((wrap64 (240 + (wrap64 (Int.tdiv a0 262144)))) % 256), .int .u8 ((wrap64 (128 + (Int.tmod (wrap64 (Int.tdiv a0 4096)) 64))) % 256), .int .u8 ((wrap64 (128 + (Int.tmod (wrap64 (Int.tdiv a0 64)) 64))) % 256), .int .u8 ((wrap64 (128 + (Int.tmod a0 64))) % 256)]) (ok := fun _ => True) (okp := fun _ => True) ?hr ?hp (fun _ hk => hk) trivial (Below.refl _ _) (Nat.le_refl _) (by simp) ?_; (case hd => rfl); (case hg => rfl); (case hr => first | (go_simp; done) | (go_simp; rfl)); (case hp => exact (Reps.one (show Kd.M (Kd.int .u8) _ _ _ ((wrap64 (240 + (wrap64 (Int.tdiv a0 262144)))) % 256) [.int .u8 ((wrap64 (240 + (wrap64 (Int.tdiv a0 262144)))) % 256)] from rfl) (Reps.one (show Kd.M (Kd.int .u8) _ _ _ ((wrap64 (128 + (Int.tmod (wrap64 (Int.tdiv a0 4096)) 64))) % 256) [.int .u8 ((wrap64 (128 + (Int.tmod (wrap64 (Int.tdiv a0 4096)) 64))) % 256)] from rfl) (Reps.one (show Kd.M (Kd.int .u8) _ _ _ ((wrap64 (128 + (Int.tmod (wrap64 (Int.tdiv a0 64)) 64))) % 256) [.int .u8 ((wrap64 (128 + (Int.tmod (wrap64 (Int.tdiv a0 64)) 64))) % 256)] from rfl) (Reps.one (show Kd.M (Kd.int .u8) _ _ _ ((wrap64 (128 + (Int.tmod a0 64))) % 256) [.int .u8 ((wrap64 (128 + (Int.tmod a0 64))) % 256)] from rfl) (Reps.none _ _)))))); intro v120011 w16 ho17 hb hg_ hnew_; clear hg_ hnew_; (first | rw [← Ny120010.out] at ho17 | (simp only [Int.reduceToNat] at ho17; rw [← Ny120010.out] at ho17)); have HO120012 := Aside0.mk (Kd.R_lower ho17 (below_size hbw)); replace HB := Aside0.mk (below_step hbw hb); clear hb ho17))
       go_ret
       exact ⟨_, erf, (hrnR HO120012), hbw⟩
mutual
def spec_l01Rune.j0 : Nat → List Int → Int → Bool → Option (Int × Int)
 | 0, _, _, _ => none
 | k + 1, x0, x1, x17 => if x17 = true then (some ((-1), 0)) else (if 0 ≤ x1 then (if x1 < (x0.length : Int) then (if (wrap64 (rd x0 x1)) ≥ 240 then (spec_l01Rune.j1 k x0 x1 4 (wrap64 ((wrap64 (rd x0 x1)) - 240))) else (if (wrap64 (rd x0 x1)) ≥ 224 then (spec_l01Rune.j1 k x0 x1 3 (wrap64 ((wrap64 (rd x0 x1)) - 224))) else (if (wrap64 (rd x0 x1)) ≥ 192 then (spec_l01Rune.j1 k x0 x1 2 (wrap64 ((wrap64 (rd x0 x1)) - 192))) else (spec_l01Rune.j1 k x0 x1 1 (wrap64 (rd x0 x1)))))) else (none)) else (none))
def spec_l01Rune.j1 : Nat → List Int → Int → Int → Int → Option (Int × Int)
 | 0, _, _, _, _ => none
 | k + 1, x0, x1, x7, x8 => if x7 > (wrap64 ((x0.length : Int) - x1)) then (some ((-1), 0)) else (spec_l01Rune.l0 k x0 x1 x7 x8 1)
def spec_l01Rune.l0 : Nat → List Int → Int → Int → Int → Int → Option (Int × Int)
 | 0, _, _, _, _, _ => none
 | k + 1, x0, x1, x7, x8, x9 => if x9 < x7 then (if 0 ≤ (wrap64 (x1 + x9)) then (if (wrap64 (x1 + x9)) < (x0.length : Int) then (spec_l01Rune.l0 k x0 x1 x7 (wrap64 ((wrap64 ((wrap64 (64 * x8)) + (wrap64 (rd x0 (wrap64 (x1 + x9)))))) - 128)) (wrap64 (x9 + 1))) else (none)) else (none)) else ((spec_RuneBytes.f k x8).bind fun t86003 => (if 0 ≤ x1 then (if x1 ≤ (wrap64 (x1 + x7)) then (if (wrap64 (x1 + x7)) ≤ (x0.length : Int) then (if (strOfNums t86003).toList = (strOfNums ((x0.take ((wrap64 (x1 + x7)) : Int).toNat).drop (x1 : Int).toNat)).toList then (some (x8, x7)) else (some ((-1), 0))) else (none)) else (none)) else (none)))
end
def spec_l01Rune.f (k : Nat) (l0 : List Int) (a1 : Int) : Option (Int × Int) := if a1 < 0 then (spec_l01Rune.j0 k l0 a1 true) else (spec_l01Rune.j0 k l0 a1 (decide (a1 ≥ (l0.length : Int))))
theorem spec_l01Rune.mono_l : ∀ k, (∀ y0 y1 y2, LeO (spec_l01Rune.j0 k y0 y1 y2) (spec_l01Rune.j0 (k + 1) y0 y1 y2)) ∧ (∀ y0 y1 y2 y3, LeO (spec_l01Rune.j1 k y0 y1 y2 y3) (spec_l01Rune.j1 (k + 1) y0 y1 y2 y3)) ∧ (∀ y0 y1 y2 y3 y4, LeO (spec_l01Rune.l0 k y0 y1 y2 y3 y4) (spec_l01Rune.l0 (k + 1) y0 y1 y2 y3 y4))
 | 0 => ⟨fun _ _ _ r h => by simp [spec_l01Rune.j0] at h, fun _ _ _ _ r h => by simp [spec_l01Rune.j1] at h, fun _ _ _ _ _ r h => by simp [spec_l01Rune.l0] at h⟩
 | k + 1 => by
  obtain ⟨ih0, ih1, ih2⟩ := spec_l01Rune.mono_l k
  refine ⟨fun y0 y1 y2 => ?_, fun y0 y1 y2 y3 => ?_, fun y0 y1 y2 y3 y4 => ?_⟩
  all_goals first | unfold spec_l01Rune.j0 | unfold spec_l01Rune.j1 | unfold spec_l01Rune.l0
  all_goals repeat' first
  | (with_reducible exact ih0 _ _ _)
  | (with_reducible exact ih1 _ _ _ _)
  | (with_reducible exact ih2 _ _ _ _ _)
  | (with_reducible exact spec_RuneBytes.mono _ _)
  | (with_reducible exact LeO.refl _)
  | (with_reducible exact LeO.none _)
  | (with_reducible refine LeO.ite ?_ ?_)
  | (with_reducible refine LeO.bind ?_ (fun _ => ?_))
  | exact ih0 _ _ _
  | exact ih1 _ _ _ _
  | exact ih2 _ _ _ _ _
  | exact spec_RuneBytes.mono _ _
  | exact LeO.none _
  | refine LeO.ite ?_ ?_
  | refine LeO.bind ?_ (fun _ => ?_)
theorem spec_l01Rune.mono : ∀ a0 a1 k, LeO (spec_l01Rune.f k a0 a1) (spec_l01Rune.f (k + 1) a0 a1) := by
 intro a0 a1 k
 obtain ⟨ih0, ih1, ih2⟩ := spec_l01Rune.mono_l k
 unfold spec_l01Rune.f
 repeat' first
   | (with_reducible exact ih0 _ _ _)
   | (with_reducible exact ih1 _ _ _ _)
   | (with_reducible exact ih2 _ _ _ _ _)
   | (with_reducible exact spec_RuneBytes.mono _ _)
   | (with_reducible exact LeO.refl _)
   | (with_reducible exact LeO.none _)
   | (with_reducible refine LeO.ite ?_ ?_)
   | (with_reducible refine LeO.bind ?_ (fun _ => ?_))
   | exact ih0 _ _ _
   | exact ih1 _ _ _ _
   | exact ih2 _ _ _ _ _
   | exact spec_RuneBytes.mono _ _
   | exact LeO.none _
   | refine LeO.ite ?_ ?_
   | refine LeO.bind ?_ (fun _ => ?_)
def spec_l01Rune.T21 : Bool × List (List Nat × List Nat) := (true, [([], []), ([0], [0]), ([1], [1]), ([], []), ([], []), ([], []), ([], []), ([5, 6], [5, 6]), ([3, 4, 7], [3, 4, 7]), ([8], [8]), ([2, 9], [2, 9])])
def spec_l01Rune.B21 : List Nat := [0, 1, 3, 0, 0, 0, 0, 96, 248, 504, 1023]
theorem spec_l01Rune.tab21 : rtab .any (opsOf Tryd.f85 21) = spec_l01Rune.T21 := by kernel_rfl
theorem spec_l01Rune.bits21 : waitsOk spec_l01Rune.T21.2 spec_l01Rune.B21 = true := by kernel_rfl
set_option maxHeartbeats 8000000 in
set_option maxRecDepth 100000 in
theorem spec_l01Rune.calls (k : Nat) (A0 : Option Addr) (c0 : Nat) (l0 : List Int) (a1 : Int) (r1 : Int) (r2 : Int) (w : World) (hr0 : Kd.C (Kd.int .u8) w A0 l0.length l0) (hc0 : l0.length ≤ c0) (h : spec_l01Rune.f k l0 a1 = some (r1, r2)) :
  Calls Tryd.prog 85 #[.slice A0 l0.length c0, .int .i64 a1] w fun e w' => e = .returned (.tuple #[.int .i64 r1, .int .i64 r2]) ∧ Below w.heap.size w w' := by
 have HR0 := Aside0.mk hr0
 have HC0 := Aside0.mk hc0
 clear hr0 hc0
 have HB := Aside0.mk (Below.refl w.heap.size w)
 have H : (if a1 < 0 then (spec_l01Rune.j0 k l0 a1 true) else (spec_l01Rune.j0 k l0 a1 (decide (a1 ≥ (l0.length : Int))))) = some (r1, r2) := h
 clear h
 have HC3 := Aside0.mk H
 clear H
 go_enter Tryd.func85, Tryd.ntmps85
 go_upto_region 1 with (fail)
 go_cut [17] (fun v17 wc => ∃ (kq : Nat) (x17_2 : Bool), v17 = .bool x17_2 ∧ Aside0 (spec_l01Rune.j0 kq l0 a1 x17_2 = some (r1, r2)) ∧ Aside0 (kq ≤ k) ∧ Aside0 (Below w.heap.size w wc))
 case first =>
  have H := HC3.out
  clear HC3
  by_cases c4 : a1 < 0
  ·rw [if_pos c4] at H
   have c4b0 : decide (a1 < 0) = true := decide_eq_true c4
   clear c4
   (first | rw [c4b0] | (simp only [i64_w, i32_w]; rw [c4b0]) | skip)
   have H' := Aside0.mk H
   clear H
   go_wp2
   go_meet
   case rel => exact ⟨_, (true), rfs, H', ⟨by first | omega | exact Nat.le_refl _⟩, ⟨hbw⟩⟩
  ·rw [if_neg c4] at H
   have c4b0 : decide (a1 < 0) = false := decide_eq_false c4
   clear c4
   (first | rw [c4b0] | (simp only [i64_w, i32_w]; rw [c4b0]) | skip)
   have H' := Aside0.mk H
   clear H
   go_wp2
   go_meet
   case rel => exact ⟨_, (decide (a1 ≥ (l0.length : Int))), rfs, H', ⟨by first | omega | exact Nat.le_refl _⟩, ⟨hbw⟩⟩
 case rest =>
  clear HC3
  try clear p2
  try clear c4
  try clear c4b0
  obtain ⟨kq, x17_2, rfl, HA, HJ2, HB⟩ := hcut
  cases kq with
  | zero => exact absurd HA.out (by simp [spec_l01Rune.j0])
  | succ kj2 =>
   have H := HA.out
   clear HA
   simp only [spec_l01Rune.j0] at H
   by_cases c5 : x17_2 = true
   ·subst c5
    have H1 : (some ((-1), 0)) = some (r1, r2) := by rw [if_pos rfl] at H; exact H
    clear H
    have H := H1
    clear H1
    simp only [Option.some.injEq, Prod.mk.injEq] at H
    obtain ⟨rfl, rfl⟩ := H
    go_wp2
    go_ret2
    exact ⟨erf, hbw⟩
   ·replace c5 := Bool.eq_false_iff.mpr c5
    subst c5
    have H1 : (if 0 ≤ a1 then (if a1 < (l0.length : Int) then (if (wrap64 (rd l0 a1)) ≥ 240 then (spec_l01Rune.j1 kj2 l0 a1 4 (wrap64 ((wrap64 (rd l0 a1)) - 240))) else (if (wrap64 (rd l0 a1)) ≥ 224 then (spec_l01Rune.j1 kj2 l0 a1 3 (wrap64 ((wrap64 (rd l0 a1)) - 224))) else (if (wrap64 (rd l0 a1)) ≥ 192 then (spec_l01Rune.j1 kj2 l0 a1 2 (wrap64 ((wrap64 (rd l0 a1)) - 192))) else (spec_l01Rune.j1 kj2 l0 a1 1 (wrap64 (rd l0 a1)))))) else (none)) else (none)) = some (r1, r2) := by rw [if_neg (show ¬ (false = true) by decide)] at H; exact H
    clear H
    have H := H1
    clear H1
    by_cases c6 : 0 ≤ a1
    ·rw [if_pos c6] at H
     have c6b0 : decide (0 ≤ a1) = true := decide_eq_true c6
     clear c6
     by_cases c7 : a1 < (l0.length : Int)
     ·rw [if_pos c7] at H
      have c7b0 : decide (a1 < (l0.length : Int)) = true := decide_eq_true c7
      clear c7
      have HC8 := Aside0.mk H
      clear H
      have p86001 : 0 ≤ (a1 : Int) := odt
      have q86001 : a1 < (l0.length : Int) := odt
      obtain ⟨ad86001, e86001, hx86001_0⟩ := Kd.at_int HR0.out a1 p86001 q86001
      cases e86001
      replace hx86001_0 := (HB.out.cell (World.block_lt_of_cell? w _ hx86001_0)).trans hx86001_0
      replace p86001 := eq_true p86001
      replace q86001 := eq_true q86001
      go_upto_block 0 with (fail)
      go_cut [7, 8] (fun v7 v8 wc => ∃ (kq : Nat) (x7_7 : Int) (x8_7 : Int), v7 = .int .i64 x7_7 ∧ v8 = .int .i64 x8_7 ∧ Aside0 (spec_l01Rune.j1 kq l0 a1 x7_7 x8_7 = some (r1, r2)) ∧ Aside0 (kq ≤ kj2) ∧ Aside0 (Below w.heap.size w wc))
      case first =>
       have H := HC8.out
       clear HC8
       by_cases c9 : (wrap64 (rd l0 a1)) ≥ 240
       ·rw [if_pos c9] at H
        have c9b0 : decide (240 ≤ (wrap64 (rd l0 a1))) = true := decide_eq_true c9
        clear c9
        (first | rw [c9b0] | (simp only [i64_w, i32_w]; rw [c9b0]) | skip)
        have H' := Aside0.mk H
        clear H
        go_wp2
        go_meet
        case rel => exact ⟨_, (4), (wrap64 ((wrap64 (rd l0 a1)) - 240)), rfs, rfs, H', ⟨by have := HJ2.out; first | omega | exact Nat.le_refl _⟩, ⟨hbw⟩⟩
       ·rw [if_neg c9] at H
        have c9b0 : decide (240 ≤ (wrap64 (rd l0 a1))) = false := decide_eq_false c9
        clear c9
        (first | rw [c9b0] | (simp only [i64_w, i32_w]; rw [c9b0]) | skip)
        by_cases c10 : (wrap64 (rd l0 a1)) ≥ 224
        ·rw [if_pos c10] at H
         have c10b0 : decide (224 ≤ (wrap64 (rd l0 a1))) = true := decide_eq_true c10
         clear c10
         have H' := Aside0.mk H
         clear H
         go_wp2
         go_meet
         case rel => exact ⟨_, (3), (wrap64 ((wrap64 (rd l0 a1)) - 224)), rfs, rfs, H', ⟨by have := HJ2.out; first | omega | exact Nat.le_refl _⟩, ⟨hbw⟩⟩
        ·rw [if_neg c10] at H
         have c10b0 : decide (224 ≤ (wrap64 (rd l0 a1))) = false := decide_eq_false c10
         clear c10
         by_cases c11 : (wrap64 (rd l0 a1)) ≥ 192
         ·rw [if_pos c11] at H
          have c11b0 : decide (192 ≤ (wrap64 (rd l0 a1))) = true := decide_eq_true c11
          clear c11
          have H' := Aside0.mk H
          clear H
          go_wp2
          go_meet
          case rel => exact ⟨_, (2), (wrap64 ((wrap64 (rd l0 a1)) - 192)), rfs, rfs, H', ⟨by have := HJ2.out; first | omega | exact Nat.le_refl _⟩, ⟨hbw⟩⟩
         ·rw [if_neg c11] at H
          have c11b0 : decide (192 ≤ (wrap64 (rd l0 a1))) = false := decide_eq_false c11
          clear c11
          have H' := Aside0.mk H
          clear H
          go_wp2
          go_meet
          case rel => exact ⟨_, (1), (wrap64 (rd l0 a1)), rfs, rfs, H', ⟨by have := HJ2.out; first | omega | exact Nat.le_refl _⟩, ⟨hbw⟩⟩
      case rest =>
       clear HC8
       try clear c1
       try clear p2
       try clear c4
       try clear c4b0
       try clear c5
       try clear c6
       try clear c6b0
       try clear p6
       try clear c7
       try clear c7b0
       try clear c8
       try clear p8
       try clear q8
       try clear hx8
       try clear c9
       try clear c9b0
       try clear c10
       try clear c10b0
       try clear c11
       try clear c11b0
       try clear hx86001_0
       try clear p2
       try clear p86001
       try clear q86001
       obtain ⟨kq, x7_7, x8_7, rfl, rfl, HA, HJ7, HB⟩ := hcut
       cases kq with
       | zero => exact absurd HA.out (by simp [spec_l01Rune.j1])
       | succ kj7 =>
        have H := HA.out
        clear HA
        simp only [spec_l01Rune.j1] at H
        by_cases c12 : x7_7 > (wrap64 ((l0.length : Int) - a1))
        ·rw [if_pos c12] at H
         have c12b0 : decide ((wrap64 ((l0.length : Int) - a1)) < x7_7) = true := decide_eq_true c12
         clear c12
         simp only [Option.some.injEq, Prod.mk.injEq] at H
         obtain ⟨rfl, rfl⟩ := H
         go_wp2
         go_ret2
         exact ⟨erf, hbw⟩
        ·rw [if_neg c12] at H
         have c12b0 : decide ((wrap64 ((l0.length : Int) - a1)) < x7_7) = false := decide_eq_false c12
         clear c12
         have H' := Aside0.mk H
         clear H
         go_wp2
         go_loopg [8, 9] kj7 (fun kq v8 v9 w' => ∃ (x8_3 : Int) (x9_3 : Int), v8 = .int .i64 x8_3 ∧ v9 = .int .i64 x9_3 ∧ Aside0 (spec_l01Rune.l0 kq l0 a1 x7_7 x8_3 x9_3 = some (r1, r2)) ∧ Aside0 (kq ≤ kj7) ∧ Aside0 (Below w.heap.size w w'))
         case atStart => exact ⟨(x8_7), (1), rfs, rfs, H', ⟨Nat.le_refl _⟩, ⟨hbw⟩⟩
         case round =>
          clear H'
          try clear c1
          try clear p2
          try clear c4
          try clear c4b0
          try clear c5
          try clear c6
          try clear c6b0
          try clear p6
          try clear c7
          try clear c7b0
          try clear c8
          try clear p8
          try clear q8
          try clear hx8
          try clear c9
          try clear c9b0
          try clear c10
          try clear c10b0
          try clear c11
          try clear c11b0
          try clear c12
          try clear c12b0
          try clear hx86001_0
          try clear p2
          try clear p6
          try clear p8
          try clear p86001
          try clear q8
          try clear q86001
          obtain ⟨x8_3, x9_3, rfl, rfl, HA, HK3, HB⟩ := hrel
          cases gk with
          | zero => exact absurd HA.out (by simp [spec_l01Rune.l0])
          | succ k3 =>
           have H := HA.out
           clear HA
           simp only [spec_l01Rune.l0] at H
           by_cases c13 : x9_3 < x7_7
           ·rw [if_pos c13] at H
            have c13b0 : decide (x9_3 < x7_7) = true := decide_eq_true c13
            clear c13
            obtain ⟨ji14, hji14⟩ : ∃ j_ : Int, (wrap64 (a1 + x9_3)) = j_ := ⟨_, rfl⟩
            replace H : (if 0 ≤ (ji14) then (if (ji14) < (l0.length : Int) then (spec_l01Rune.l0 k3 l0 a1 x7_7 (wrap64 ((wrap64 ((wrap64 (64 * x8_3)) + (wrap64 (rd l0 (ji14))))) - 128)) (wrap64 (x9_3 + 1))) else (none)) else (none)) = some (r1, r2) := by first | (rw [hji14] at H; exact H) | (simp only [hji14] at H ⊢; exact H)
            have hji14w : (IntKind.i64.wrap (a1 + x9_3)) = ji14 := (i64_w _).trans hji14
            by_cases c15 : 0 ≤ (ji14)
            ·rw [if_pos c15] at H
             have c15b0 : decide (0 ≤ (ji14)) = true := decide_eq_true c15
             clear c15
             by_cases c16 : (ji14) < (l0.length : Int)
             ·rw [if_pos c16] at H
              have c16b0 : decide ((ji14) < (l0.length : Int)) = true := decide_eq_true c16
              clear c16
              have H' := Aside0.mk H
              clear H
              have p86002 : 0 ≤ ((ji14) : Int) := odt
              have q86002 : (ji14) < (l0.length : Int) := odt
              obtain ⟨ad86002, e86002, hx86002_0⟩ := Kd.at_int HR0.out (ji14) p86002 q86002
              obtain rfl : ad86001 = ad86002 := (by injection e86002)
              replace hx86002_0 := (HB.out.cell (World.block_lt_of_cell? w _ hx86002_0)).trans hx86002_0
              replace p86002 := eq_true p86002
              replace q86002 := eq_true q86002
              go_wp2
              go_roundg k3
              case measure => have := HJ2.out; have := HJ7.out; have := HK3.out; omega
              case rel => exact ⟨(wrap64 ((wrap64 ((wrap64 (64 * x8_3)) + (wrap64 (rd l0 (ji14))))) - 128)), (wrap64 (x9_3 + 1)), (by first | rfl | (simp; done) | (simp only [← hji14] <;> (first | rfl | simp)) | (simp [*]; done)), rfs, H', ⟨by have := HJ2.out; have := HJ7.out; have := HK3.out; omega⟩, ⟨hbw⟩⟩
             ·rw [if_neg c16] at H
              exact absurd H (by simp)
            ·rw [if_neg c15] at H
             exact absurd H (by simp)
           ·rw [if_neg c13] at H
            have c13b0 : decide (x9_3 < x7_7) = false := decide_eq_false c13
            clear c13
            replace H := Option.bind_eq_some_iff.mp H
            obtain ⟨t86003, A170, H⟩ := H
            replace H : (if 0 ≤ a1 then (if a1 ≤ (wrap64 (a1 + x7_7)) then (if (wrap64 (a1 + x7_7)) ≤ (l0.length : Int) then (if (strOfNums t86003).toList = (strOfNums ((l0.take ((wrap64 (a1 + x7_7)) : Int).toNat).drop (a1 : Int).toNat)).toList then (some (x8_3, x7_7)) else (some ((-1), 0))) else (none)) else (none)) else (none)) = some (r1, r2) := H
            have A17 := Aside0.mk A170
            clear A170
            by_cases c18 : 0 ≤ a1
            ·rw [if_pos c18] at H
             have c18b0 := eq_true c18
             have c18b1 : decide (0 ≤ a1) = true := decide_eq_true c18
             clear c18
             by_cases c19 : a1 ≤ (wrap64 (a1 + x7_7))
             ·rw [if_pos c19] at H
              have c19b0 := eq_true c19
              have c19b1 : decide (a1 ≤ (wrap64 (a1 + x7_7))) = true := decide_eq_true c19
              by_cases c20 : (wrap64 (a1 + x7_7)) ≤ (l0.length : Int)
              ·rw [if_pos c20] at H
               have c20b0 := eq_true c20
               have c20b1 : decide ((wrap64 (a1 + x7_7)) ≤ (l0.length : Int)) = true := decide_eq_true c20
               by_cases c21 : (strOfNums t86003).toList = (strOfNums ((l0.take ((wrap64 (a1 + x7_7)) : Int).toNat).drop (a1 : Int).toNat)).toList
               ·rw [if_pos c21] at H
                have c21b0 : ((strOfNums t86003).toList == (strOfNums ((l0.take ((wrap64 (a1 + x7_7)) : Int).toNat).drop (a1 : Int).toNat)).toList) = true := beq_iff_eq.mpr c21
                have c21b1 : ((strOfNums t86003).toList != (strOfNums ((l0.take ((wrap64 (a1 + x7_7)) : Int).toNat).drop (a1 : Int).toNat)).toList) = false := bne_eq_false_iff_eq.mpr c21
                clear c21
                simp only [Option.some.injEq, Prod.mk.injEq] at H
                obtain ⟨rfl, rfl⟩ := H
                try go_wp2
                replace HB := Aside0.mk (below_drew1 HB.out)
                obtain ⟨i023, hi023, _, hsz23, _⟩ := info_parts info5
                obtain ⟨A23, hcut23, hA23, hC23⟩ := print_mid_of (P := Tryd.prog) (Value.int .u8) 0 22 5 .i64 .i64 Tryd.underlying22 hi023 hsz23 (some ad86001) c0 l0 a1 (wrap64 (a1 + x7_7)) (odt) (by first | omega | exact odt) (odt) HC0.out
                have HR86006 := Aside0.mk (Kd.C_of_reads (h1 := fun _ => rfl) (hA23 _ (Kd.reads_of_C HR0.out)))
                have HC86006 := Aside0.mk hC23
                clear hA23 hC23 hi023 hsz23
                have hcvS := Aside0.mk (show ∀ W : World, Below w.heap.size w W → Sem.run Tryd.prog (convert 22 9 (Value.slice A23 ((wrap64 (a1 + x7_7)).toNat - a1.toNat) (c0 - a1.toNat))) W = .ok (.string (strOfNums ((l0.take ((wrap64 (a1 + x7_7)) : Int).toNat).drop (a1 : Int).toNat))) W from fun W hW_ => by rw [show ((wrap64 (a1 + x7_7)).toNat - a1.toNat) = ((l0.take ((wrap64 (a1 + x7_7)) : Int).toNat).drop (a1 : Int).toNat).length from by rw [List.length_drop, List.length_take]; have h_ : (wrap64 (a1 + x7_7)) ≤ (l0.length : Int) := odt; omega]; exact Kd.C_string (P := Tryd.prog) Tryd.underlying22 Tryd.underlying5 Tryd.underlying9 (Kd.C_below HR86006.out hW_))
                refine start_ (n := 11) (S := fun w' => Sem.run Tryd.prog (convert 22 9 (Value.slice A23 ((wrap64 (a1 + x7_7)).toNat - a1.toNat) (c0 - a1.toNat))) w' = .ok (.string (strOfNums ((l0.take ((wrap64 (a1 + x7_7)) : Int).toNat).drop (a1 : Int).toNat))) w') (ds := []) #[false, false, false, false, false, false, false, false, false, false, false] (by kernel_rfl) rfl rfl (hcvS.out _ hbw) (fun hHeld => ?_); refine with_tabW spec_l01Rune.tab21 spec_l01Rune.bits21 (fun HT_ HW_ => ?_)
                generalize wr.drew = w22 at HB HR86006 hHeld ⊢
                refine pureM 0 (some 61) (bz 11 0x1) (any_of HT_.out (by kernel_rfl)) ?_
                refine pureM 3 (some 64) (bz 11 0x9) (any_of HT_.out (by kernel_rfl)) ?_
                refine pureM 4 (some 65) (bz 11 0x19) (any_of HT_.out (by kernel_rfl)) ?_
                refine pureM 5 (some 66) (bz 11 0x39) (any_of HT_.out (by kernel_rfl)) ?_
                refine pureM 6 (some 67) (bz 11 0x79) (any_of HT_.out (by kernel_rfl)) ?_
                refine pureM 7 (some 68) (bz 11 0xf9) (any_of HT_.out (by kernel_rfl)) ?_
                refine pureM 8 (some 69) (bz 11 0x1f9) (any_of HT_.out (by kernel_rfl)) ?_
                refine take_ (i := 9) (N := some 70) (v := ?_) (a' := ?_) (bz 11 0x3f9) rfl rfl (take_ofW HT_.out HW_.out (by kernel_rfl)) (fun _ _ _ h => h) (Or.inl ⟨by rfl, ?_⟩) hHeld ?_ ?_
                rotate_left
                ·intro w' s0
                 go_simp
                 with_reducible rfl
                rotate_left
                ·simp only [Act.put, List.setIfInBounds_toArray, List.set_cons_zero, List.set_cons_succ, i64_w, i32_w]
                 rfl
                refine one_ (i := 1) (N := some 62) (bz 11 0x3fb) rfl rfl (one_of HT_.out (by kernel_rfl)) (by decide) (fun K hK => ?_)
                refine goes_ Tryd.func119 (by kernel_rfl) rfl #[.int .i64 x8_3] (by rfl) rfl rfl (by (try simp only [List.map_toArray, List.map_cons, List.map_nil]); first | done | rfl | (simp only [List.length_drop, List.length_take]; rfl)) ?_
                with_reducible refine (spec_RuneBytes.calls k3 x8_3 t86003 _ A17.out).mono ?_
                rintro e w24 ⟨v86004, rfl, ho0, hb⟩
                refine ⟨_, rfl, ?_⟩
                have HO86005 := Aside0.mk (Kd.R_lower ho0 (below_size hbw))
                replace HB := Aside0.mk (below_step hbw hb)
                (try clear hb)
                (try clear hb2)
                (try clear hk)
                (try clear hi)
                (try clear ho0)
                have hcv26 := Kd.C_string (P := Tryd.prog) (A := A23) (c := (c0 - a1.toNat)) Tryd.underlying22 Tryd.underlying5 Tryd.underlying9 (Kd.C_below HR86006.out HB.out)
                refine hK.out _ _ (hcvS.out _ hbw) (fun hHeld => ?_)
                clear hK K
                refine norm_ (a' := ?_) ?_ ?_
                rotate_left
                ·show Act.put _ (some 62) _ = _
                 simp only [Act.put, List.setIfInBounds_toArray, List.set_cons_zero, List.set_cons_succ, i64_w, i32_w]
                 rfl
                refine one_ (i := 2) (N := some 63) (bz 11 0x3ff) rfl rfl (one_of HT_.out (by kernel_rfl)) (by decide) (fun K hK => ?_)
                have hcv25 := own_string (P := Tryd.prog) Tryd.underlying22 Tryd.underlying5 Tryd.underlying9 (Kd.own_of_R HO86005.out)
                refine value_ (w1 := ?_) (v := ?_) (by rfl) rfl ?_ ?_
                rotate_left 2
                ·go_simp
                 constructor
                 ·rfl
                 ·rfl
                clear hcv25
                refine hK.out _ _ (hcvS.out _ hbw) (fun hHeld => ?_)
                clear hK K
                refine norm_ (a' := ?_) ?_ ?_
                rotate_left
                ·show Act.put _ (some 63) _ = _
                 simp only [Act.put, List.setIfInBounds_toArray, List.set_cons_zero, List.set_cons_succ, i64_w, i32_w]
                 rfl
                refine pureM 10 (some 71) (bz 11 0x7ff) (any_of HT_.out (by kernel_rfl)) ?_
                refine done_ (done_of HT_.out (by kernel_rfl)) ?_
                try go_wp2
                go_ret2
                exact ⟨erf, hbw⟩
               ·rw [if_neg c21] at H
                have c21b0 : ((strOfNums t86003).toList == (strOfNums ((l0.take ((wrap64 (a1 + x7_7)) : Int).toNat).drop (a1 : Int).toNat)).toList) = false := beq_eq_false_iff_ne.mpr c21
                have c21b1 : ((strOfNums t86003).toList != (strOfNums ((l0.take ((wrap64 (a1 + x7_7)) : Int).toNat).drop (a1 : Int).toNat)).toList) = true := bne_iff_ne.mpr c21
                simp only [Option.some.injEq, Prod.mk.injEq] at H
                obtain ⟨rfl, rfl⟩ := H
                try go_wp2
                replace HB := Aside0.mk (below_drew1 HB.out)
                obtain ⟨i029, hi029, _, hsz29, _⟩ := info_parts info5
                obtain ⟨A29, hcut29, hA29, hC29⟩ := print_mid_of (P := Tryd.prog) (Value.int .u8) 0 22 5 .i64 .i64 Tryd.underlying22 hi029 hsz29 (some ad86001) c0 l0 a1 (wrap64 (a1 + x7_7)) (odt) (by first | omega | exact odt) (odt) HC0.out
                have HR86006 := Aside0.mk (Kd.C_of_reads (h1 := fun _ => rfl) (hA29 _ (Kd.reads_of_C HR0.out)))
                have HC86006 := Aside0.mk hC29
                clear hA29 hC29 hi029 hsz29
                have hcvS := Aside0.mk (show ∀ W : World, Below w.heap.size w W → Sem.run Tryd.prog (convert 22 9 (Value.slice A29 ((wrap64 (a1 + x7_7)).toNat - a1.toNat) (c0 - a1.toNat))) W = .ok (.string (strOfNums ((l0.take ((wrap64 (a1 + x7_7)) : Int).toNat).drop (a1 : Int).toNat))) W from fun W hW_ => by rw [show ((wrap64 (a1 + x7_7)).toNat - a1.toNat) = ((l0.take ((wrap64 (a1 + x7_7)) : Int).toNat).drop (a1 : Int).toNat).length from by rw [List.length_drop, List.length_take]; have h_ : (wrap64 (a1 + x7_7)) ≤ (l0.length : Int) := odt; omega]; exact Kd.C_string (P := Tryd.prog) Tryd.underlying22 Tryd.underlying5 Tryd.underlying9 (Kd.C_below HR86006.out hW_))
                refine start_ (n := 11) (S := fun w' => Sem.run Tryd.prog (convert 22 9 (Value.slice A29 ((wrap64 (a1 + x7_7)).toNat - a1.toNat) (c0 - a1.toNat))) w' = .ok (.string (strOfNums ((l0.take ((wrap64 (a1 + x7_7)) : Int).toNat).drop (a1 : Int).toNat))) w') (ds := []) #[false, false, false, false, false, false, false, false, false, false, false] (by kernel_rfl) rfl rfl (hcvS.out _ hbw) (fun hHeld => ?_); refine with_tabW spec_l01Rune.tab21 spec_l01Rune.bits21 (fun HT_ HW_ => ?_)
                generalize wr.drew = w28 at HB HR86006 hHeld ⊢
                refine pureM 0 (some 61) (bz 11 0x1) (any_of HT_.out (by kernel_rfl)) ?_
                refine pureM 3 (some 64) (bz 11 0x9) (any_of HT_.out (by kernel_rfl)) ?_
                refine pureM 4 (some 65) (bz 11 0x19) (any_of HT_.out (by kernel_rfl)) ?_
                refine pureM 5 (some 66) (bz 11 0x39) (any_of HT_.out (by kernel_rfl)) ?_
                refine pureM 6 (some 67) (bz 11 0x79) (any_of HT_.out (by kernel_rfl)) ?_
                refine pureM 7 (some 68) (bz 11 0xf9) (any_of HT_.out (by kernel_rfl)) ?_
                refine pureM 8 (some 69) (bz 11 0x1f9) (any_of HT_.out (by kernel_rfl)) ?_
                refine take_ (i := 9) (N := some 70) (v := ?_) (a' := ?_) (bz 11 0x3f9) rfl rfl (take_ofW HT_.out HW_.out (by kernel_rfl)) (fun _ _ _ h => h) (Or.inl ⟨by rfl, ?_⟩) hHeld ?_ ?_
                rotate_left
                ·intro w' s0
                 go_simp
                 with_reducible rfl
                rotate_left
                ·simp only [Act.put, List.setIfInBounds_toArray, List.set_cons_zero, List.set_cons_succ, i64_w, i32_w]
                 rfl
                refine one_ (i := 1) (N := some 62) (bz 11 0x3fb) rfl rfl (one_of HT_.out (by kernel_rfl)) (by decide) (fun K hK => ?_)
                refine goes_ Tryd.func119 (by kernel_rfl) rfl #[.int .i64 x8_3] (by rfl) rfl rfl (by (try simp only [List.map_toArray, List.map_cons, List.map_nil]); first | done | rfl | (simp only [List.length_drop, List.length_take]; rfl)) ?_
                with_reducible refine (spec_RuneBytes.calls k3 x8_3 t86003 _ A17.out).mono ?_
                rintro e w30 ⟨v86004, rfl, ho0, hb⟩
                refine ⟨_, rfl, ?_⟩
                have HO86005 := Aside0.mk (Kd.R_lower ho0 (below_size hbw))
                replace HB := Aside0.mk (below_step hbw hb)
                (try clear hb)
                (try clear hb2)
                (try clear hk)
                (try clear hi)
                (try clear ho0)
                have hcv32 := Kd.C_string (P := Tryd.prog) (A := A29) (c := (c0 - a1.toNat)) Tryd.underlying22 Tryd.underlying5 Tryd.underlying9 (Kd.C_below HR86006.out HB.out)
                refine hK.out _ _ (hcvS.out _ hbw) (fun hHeld => ?_)
                clear hK K
                refine norm_ (a' := ?_) ?_ ?_
                rotate_left
                ·show Act.put _ (some 62) _ = _
                 simp only [Act.put, List.setIfInBounds_toArray, List.set_cons_zero, List.set_cons_succ, i64_w, i32_w]
                 rfl
                refine one_ (i := 2) (N := some 63) (bz 11 0x3ff) rfl rfl (one_of HT_.out (by kernel_rfl)) (by decide) (fun K hK => ?_)
                have hcv31 := own_string (P := Tryd.prog) Tryd.underlying22 Tryd.underlying5 Tryd.underlying9 (Kd.own_of_R HO86005.out)
                refine value_ (w1 := ?_) (v := ?_) (by rfl) rfl ?_ ?_
                rotate_left 2
                ·go_simp
                 constructor
                 ·rfl
                 ·rfl
                clear hcv31
                refine hK.out _ _ (hcvS.out _ hbw) (fun hHeld => ?_)
                clear hK K
                refine norm_ (a' := ?_) ?_ ?_
                rotate_left
                ·show Act.put _ (some 63) _ = _
                 simp only [Act.put, List.setIfInBounds_toArray, List.set_cons_zero, List.set_cons_succ, i64_w, i32_w]
                 rfl
                refine pureM 10 (some 71) (bz 11 0x7ff) (any_of HT_.out (by kernel_rfl)) ?_
                refine done_ (done_of HT_.out (by kernel_rfl)) ?_
                try go_wp2
                go_ret2
                exact ⟨erf, hbw⟩
              ·rw [if_neg c20] at H
               exact absurd H (by simp)
             ·rw [if_neg c19] at H
              exact absurd H (by simp)
            ·rw [if_neg c18] at H
             exact absurd H (by simp)
     ·rw [if_neg c7] at H
      exact absurd H (by simp)
    ·rw [if_neg c6] at H
     exact absurd H (by simp)
def spec_RuneSize.f (k : Nat) (l0 : List Int) (a1 : Int) : Option (Int) := (spec_l01Rune.f k l0 a1).bind fun bt126001 => (some bt126001.2)
theorem spec_RuneSize.mono : ∀ a0 a1 k, LeO (spec_RuneSize.f k a0 a1) (spec_RuneSize.f (k + 1) a0 a1) := by
 intro a0 a1 k
 unfold spec_RuneSize.f
 repeat' first
   | (with_reducible exact spec_l01Rune.mono _ _ _)
   | (with_reducible exact LeO.refl _)
   | (with_reducible exact LeO.none _)
   | (with_reducible refine LeO.ite ?_ ?_)
   | (with_reducible refine LeO.bind ?_ (fun _ => ?_))
   | exact spec_l01Rune.mono _ _ _
   | exact LeO.none _
   | refine LeO.ite ?_ ?_
   | refine LeO.bind ?_ (fun _ => ?_)
set_option maxHeartbeats 8000000 in
set_option maxRecDepth 100000 in
theorem spec_RuneSize.calls (k : Nat) (A0 : Option Addr) (c0 : Nat) (l0 : List Int) (a1 : Int) (r : Int) (w : World) (hr0 : Kd.C (Kd.int .u8) w A0 l0.length l0) (hc0 : l0.length ≤ c0) (h : spec_RuneSize.f k l0 a1 = some r) :
  Calls Tryd.prog 125 #[.slice A0 l0.length c0, .int .i64 a1] w fun e w' => e = .returned (.int .i64 r) ∧ Below w.heap.size w w' := by
 have HR0 := Aside0.mk hr0
 have HC0 := Aside0.mk hc0
 clear hr0 hc0
 have HB := Aside0.mk (Below.refl w.heap.size w)
 have H : ((spec_l01Rune.f k l0 a1).bind fun bt126001 => (some bt126001.2)) = some r := h
 clear h
 replace H := Option.bind_eq_some_iff.mp H
 obtain ⟨⟨t126001, t126002⟩, A30, H⟩ := H
 replace H : (some t126002) = some r := H
 have A3 := Aside0.mk A30
 clear A30
 obtain rfl := Option.some.inj H
 go_enter Tryd.func125, Tryd.ntmps125
 go_wp2_with (first | ((with_reducible refine gate_callee (f := 85) rfl ?_); refine goesM (some 10) Tryd.func85 #[.slice A0 l0.length c0, .int .i64 a1] ?_; (with_reducible refine (spec_l01Rune.calls k _ _ l0 a1 t126001 t126002 _ ?side1 ?side2 A3.out).mono ?_); (case side1 => exact cpl HR0.out); (case side2 => exact HC0.out); rintro e w4 ⟨rfl, hb⟩; refine ⟨_, rfl, ?_⟩; replace HB := Aside0.mk (below_step hbw hb); (try clear hb); (try clear hb2); (try clear hk); (try clear hi)))
 go_ret
 exact ⟨erf, hbw⟩
def spec_l01Cuts.l0 : Nat → List Int → List Int → Int → Option (List Int)
 | 0, _, _, _ => none
 | k + 1, x0, x3, x4 => if x4 < (x0.length : Int) then ((spec_RuneSize.f k x0 x4).bind fun t74004 => (if t74004 = 0 then (some ([] : List Int)) else (if x3.length < 17592186044416 then (spec_l01Cuts.l0 k x0 (x3 ++ [x4]) (wrap64 (x4 + t74004))) else (none)))) else (if x3.length < 17592186044416 then (some (x3 ++ [x4])) else (none))
def spec_l01Cuts.f (k : Nat) (l0 : List Int) : Option (List Int) := if (l0.length : Int) > 400 then (some ([] : List Int)) else (spec_l01Cuts.l0 k l0 (([] : List Int)) 0)
theorem spec_l01Cuts.mono_l : ∀ k, (∀ y0 y1 y2, LeO (spec_l01Cuts.l0 k y0 y1 y2) (spec_l01Cuts.l0 (k + 1) y0 y1 y2))
 | 0 => fun _ _ _ r h => by simp [spec_l01Cuts.l0] at h
 | k + 1 => by
  have ih0 := spec_l01Cuts.mono_l k
  ·intro y0 y1 y2
   unfold spec_l01Cuts.l0
   repeat' first
   | (with_reducible exact ih0 _ _ _)
   | (with_reducible exact spec_RuneSize.mono _ _ _)
   | (with_reducible exact LeO.refl _)
   | (with_reducible exact LeO.none _)
   | (with_reducible refine LeO.ite ?_ ?_)
   | (with_reducible refine LeO.bind ?_ (fun _ => ?_))
   | exact ih0 _ _ _
   | exact spec_RuneSize.mono _ _ _
   | exact LeO.none _
   | refine LeO.ite ?_ ?_
   | refine LeO.bind ?_ (fun _ => ?_)
theorem spec_l01Cuts.mono : ∀ a0 k, LeO (spec_l01Cuts.f k a0) (spec_l01Cuts.f (k + 1) a0) := by
 intro a0 k
 have ih0 := spec_l01Cuts.mono_l k
 unfold spec_l01Cuts.f
 repeat' first
   | (with_reducible exact ih0 _ _ _)
   | (with_reducible exact spec_RuneSize.mono _ _ _)
   | (with_reducible exact LeO.refl _)
   | (with_reducible exact LeO.none _)
   | (with_reducible refine LeO.ite ?_ ?_)
   | (with_reducible refine LeO.bind ?_ (fun _ => ?_))
   | exact ih0 _ _ _
   | exact spec_RuneSize.mono _ _ _
   | exact LeO.none _
   | refine LeO.ite ?_ ?_
   | refine LeO.bind ?_ (fun _ => ?_)
set_option maxHeartbeats 8000000 in
set_option maxRecDepth 100000 in
theorem spec_l01Cuts.calls (k : Nat) (A0 : Option Addr) (c0 : Nat) (l0 : List Int) (r : List Int) (w : World) (hr0 : Kd.C (Kd.int .u8) w A0 l0.length l0) (hc0 : l0.length ≤ c0) (h : spec_l01Cuts.f k l0 = some r) :
  Calls Tryd.prog 73 #[.slice A0 l0.length c0] w fun e w' => ∃ v0_ : Value, e = .returned (v0_) ∧ Kd.R (Kd.int .i64) 3 w' w.heap.size (fun _ => True) v0_ r ∧ Below w.heap.size w w' := by
 have HR0 := Aside0.mk hr0
 have HC0 := Aside0.mk hc0
 clear hr0 hc0
 have HB := Aside0.mk (Below.refl w.heap.size w)
 have H : (if (l0.length : Int) > 400 then (some ([] : List Int)) else (spec_l01Cuts.l0 k l0 (([] : List Int)) 0)) = some r := h
 clear h
 by_cases c2 : (l0.length : Int) > 400
 ·rw [if_pos c2] at H
  have c2b0 : decide (400 < (l0.length : Int)) = true := decide_eq_true c2
  have c2b1 : decide (400 < l0.length) = true := decide_eq_true (by omega)
  clear c2
  obtain rfl := Option.some.inj H
  go_enter Tryd.func73, Tryd.ntmps73
  go_wp2
  go_ret
  exact ⟨_, erf, by first | exact Kd.R_nil _ _ _ _ _ | exact Kd.N_nil _ _ _ _ _ | exact Kd.V_nil _ _ _ _ _ | exact Kd.Q_nil _ _ _ _ _ | exact Kd.S_nil _ _ _ _ _, hbw⟩
 ·rw [if_neg c2] at H
  have c2b0 : decide (400 < (l0.length : Int)) = false := decide_eq_false c2
  have c2b1 : decide (400 < l0.length) = false := decide_eq_false (by omega)
  clear c2
  obtain ⟨y74001, hy74001⟩ : ∃ y_ : List Int, y_ = (([] : List Int)) := ⟨_, rfl⟩
  replace H : (spec_l01Cuts.l0 k l0 y74001 0) = some r := repH hy74001 H
  have Ny74001 := Aside0.mk hy74001
  clear hy74001
  have H' := Aside0.mk H
  clear H
  go_enter Tryd.func73, Tryd.ntmps73
  go_wp2_with (first | ((with_reducible refine gate_dst (N := 9) rfl ?_); refine Kd.R_lit (Kd.int .i64) _ 3 ?hg (N := 9) ?hd (xs := ([] : List Int)) (inner := []) (ok := fun _ => True) (okp := fun _ => True) ?hr ?hp (fun _ hk => hk) trivial (Below.refl _ _) (Nat.le_refl _) (by simp) ?_; (case hd => rfl); (case hg => rfl); (case hr => first | (go_simp; done) | (go_simp; rfl)); (case hp => exact (Reps.none _ _)); intro v74002 w3 ho4 hb hg_ hnew_; clear hg_ hnew_; (first | rw [← Ny74001.out] at ho4 | (simp only [Int.reduceToNat] at ho4; rw [← Ny74001.out] at ho4)); have HO74003 := Aside0.mk (Kd.R_lower ho4 (below_size hbw)); replace HB := Aside0.mk (below_step hbw hb); clear hb ho4))
  go_loopg [3, 4] k (fun kq v3 v4 w' => ∃ (x3_1 : List Int) (x4_1 : Int), v4 = .int .i64 x4_1 ∧ Aside0 (spec_l01Cuts.l0 kq l0 x3_1 x4_1 = some r) ∧ Aside0 (kq ≤ k) ∧ Aside0 (Kd.R (Kd.int .i64) 3 w' w.heap.size (fun _ => True) v3 x3_1) ∧ Aside0 (Below w.heap.size w w'))
  case atStart => exact ⟨(y74001), (0), rfs, H', ⟨Nat.le_refl _⟩, ⟨(hrnR HO74003)⟩, ⟨hbw⟩⟩
  case round =>
   clear H'
   try clear c2
   try clear c2b0
   try clear c2b1
   try clear p2
   obtain ⟨x3_1, x4_1, rfl, HA, HK1, HO_3, HB⟩ := hrel
   cases gk with
   | zero => exact absurd HA.out (by simp [spec_l01Cuts.l0])
   | succ k1 =>
    have H := HA.out
    clear HA
    simp only [spec_l01Cuts.l0] at H
    by_cases c5 : x4_1 < (l0.length : Int)
    ·rw [if_pos c5] at H
     have c5b0 : decide (x4_1 < (l0.length : Int)) = true := decide_eq_true c5
     clear c5
     replace H := Option.bind_eq_some_iff.mp H
     obtain ⟨t74004, A60, H⟩ := H
     replace H : (if t74004 = 0 then (some ([] : List Int)) else (if x3_1.length < 17592186044416 then (spec_l01Cuts.l0 k1 l0 (x3_1 ++ [x4_1]) (wrap64 (x4_1 + t74004))) else (none))) = some r := H
     have A6 := Aside0.mk A60
     clear A60
     by_cases c7 : t74004 = 0
     ·rw [if_pos c7] at H
      have c7b0 : (t74004 == 0) = true := beq_iff_eq.mpr c7
      have c7b1 : (t74004 != 0) = false := bne_eq_false_iff_eq.mpr c7
      clear c7
      obtain rfl := Option.some.inj H
      go_wp2_with (first | ((with_reducible refine gate_callee (f := 125) rfl ?_); refine goesM (some 16) Tryd.func125 #[.slice A0 l0.length c0, .int .i64 x4_1] ?_; (with_reducible refine (spec_RuneSize.calls k1 _ _ l0 x4_1 t74004 _ ?side1 ?side2 A6.out).mono ?_); (case side1 => exact cpl (Kd.C_below HR0.out HB.out)); (case side2 => exact HC0.out); rintro e w8 ⟨rfl, hb⟩; refine ⟨_, rfl, ?_⟩; replace HO_3 := Aside0.mk (Kd.R_below (hrnR HO_3) hb); replace HB := Aside0.mk (below_step hbw hb); (try clear hb); (try clear hb2); (try clear hk); (try clear hi)))
      go_ret
      exact ⟨_, erf, by first | exact Kd.R_nil _ _ _ _ _ | exact Kd.N_nil _ _ _ _ _ | exact Kd.V_nil _ _ _ _ _ | exact Kd.Q_nil _ _ _ _ _ | exact Kd.S_nil _ _ _ _ _, hbw⟩
     ·rw [if_neg c7] at H
      have c7b0 : (t74004 == 0) = false := beq_eq_false_iff_ne.mpr c7
      have c7b1 : (t74004 != 0) = true := bne_iff_ne.mpr c7
      by_cases c9 : x3_1.length < 17592186044416
      ·rw [if_pos c9] at H
       have LMc9 := Aside0.mk c9
       clear c9
       obtain ⟨y74005, hy74005⟩ : ∃ y_ : List Int, y_ = (x3_1 ++ [x4_1]) := ⟨_, rfl⟩
       replace H : (spec_l01Cuts.l0 k1 l0 y74005 (wrap64 (x4_1 + t74004))) = some r := repH hy74005 H
       have Ny74005 := Aside0.mk hy74005
       clear hy74005
       have H' := Aside0.mk H
       clear H
       go_wp2_with (first | ((with_reducible refine gate_callee (f := 125) rfl ?_); refine goesM (some 16) Tryd.func125 #[.slice A0 l0.length c0, .int .i64 x4_1] ?_; (with_reducible refine (spec_RuneSize.calls k1 _ _ l0 x4_1 t74004 _ ?side1 ?side2 A6.out).mono ?_); (case side1 => exact cpl (Kd.C_below HR0.out HB.out)); (case side2 => exact HC0.out); rintro e w10 ⟨rfl, hb⟩; refine ⟨_, rfl, ?_⟩; replace HO_3 := Aside0.mk (Kd.R_below (hrnR HO_3) hb); replace HB := Aside0.mk (below_step hbw hb); (try clear hb); (try clear hb2); (try clear hk); (try clear hi)) | ((with_reducible refine gate_builtin (b := .append) (xs := #[.tmp 19, .tmp 21]) rfl ?_); at_builtin; refine Kd.R_append (Kd.int .i64) (w0 := w) w.heap.size rfl (.tmp 19) (.tmp 21) 105 3 (.int .i64 0) 8 rfl Tryd.underlying105 info3 rfl (by decide) (by omega) u3 x3_1 x4_1 [.int .i64 x4_1] (fun _ => True) (fun _ => False) rfl rfl ?aP (fun _ hk => hk.elim) ?aF ?aO ?aB ?aS ?aL ?_; (case aP => exact rfl); (case aB => exact hbw); (case aF => exact (fun _ _ => trivial)); (case aO => exact (hrnR HO_3)); (case aS => exact (below_size hbw)); (case aL => have := LMc9.out; omega); intro v74006 w11 ho hb hg hat; rw [← Ny74005.out] at ho; have HO74007 := Aside0.mk (ho); replace HB := Aside0.mk (hb); clear HO_3; clear ho hb hg hat))
       go_roundg k1
       case measure => have := HK1.out; omega
       case rel => exact ⟨(y74005), (wrap64 (x4_1 + t74004)), rfs, H', ⟨by have := HK1.out; omega⟩, ⟨(hrnR HO74007)⟩, ⟨hbw⟩⟩
      ·rw [if_neg c9] at H
       exact absurd H (by simp)
    ·rw [if_neg c5] at H
     have c5b0 : decide (x4_1 < (l0.length : Int)) = false := decide_eq_false c5
     clear c5
     by_cases c12 : x3_1.length < 17592186044416
     ·rw [if_pos c12] at H
      have LMc12 := Aside0.mk c12
      clear c12
      obtain ⟨y74008, hy74008⟩ : ∃ y_ : List Int, y_ = (x3_1 ++ [x4_1]) := ⟨_, rfl⟩
      replace H : (some y74008) = some r := repH hy74008 H
      have Ny74008 := Aside0.mk hy74008
      clear hy74008
      obtain rfl := Option.some.inj H
      go_wp2_with (first | ((with_reducible refine gate_builtin (b := .append) (xs := #[.tmp 26, .tmp 28]) rfl ?_); at_builtin; refine Kd.R_append (Kd.int .i64) (w0 := w) w.heap.size rfl (.tmp 26) (.tmp 28) 105 3 (.int .i64 0) 8 rfl Tryd.underlying105 info3 rfl (by decide) (by omega) u3 x3_1 x4_1 [.int .i64 x4_1] (fun _ => True) (fun _ => False) rfl rfl ?aP (fun _ hk => hk.elim) ?aF ?aO ?aB ?aS ?aL ?_; (case aP => exact rfl); (case aB => exact hbw); (case aF => exact (fun _ _ => trivial)); (case aO => exact (hrnR HO_3)); (case aS => exact (below_size hbw)); (case aL => have := LMc12.out; omega); intro v74009 w13 ho hb hg hat; rw [← Ny74008.out] at ho; have HO74010 := Aside0.mk (ho); replace HB := Aside0.mk (hb); clear HO_3; clear ho hb hg hat))
      go_ret
      exact ⟨_, erf, (hrnR HO74010), hbw⟩
     ·rw [if_neg c12] at H
      exact absurd H (by simp)
def spec_TextOk.f (k : Nat) (l0 : List Int) : Option (Bool) := (spec_l01Cuts.f k l0).bind fun t75001 => (some (decide ((t75001.length : Int) > 0)))
theorem spec_TextOk.mono : ∀ a0 k, LeO (spec_TextOk.f k a0) (spec_TextOk.f (k + 1) a0) := by
 intro a0 k
 unfold spec_TextOk.f
 repeat' first
   | (with_reducible exact spec_l01Cuts.mono _ _)
   | (with_reducible exact LeO.refl _)
   | (with_reducible exact LeO.none _)
   | (with_reducible refine LeO.ite ?_ ?_)
   | (with_reducible refine LeO.bind ?_ (fun _ => ?_))
   | exact spec_l01Cuts.mono _ _
   | exact LeO.none _
   | refine LeO.ite ?_ ?_
   | refine LeO.bind ?_ (fun _ => ?_)
set_option maxHeartbeats 8000000 in
set_option maxRecDepth 100000 in
theorem spec_TextOk.calls (k : Nat) (A0 : Option Addr) (c0 : Nat) (l0 : List Int) (r : Bool) (w : World) (hr0 : Kd.C (Kd.int .u8) w A0 l0.length l0) (hc0 : l0.length ≤ c0) (h : spec_TextOk.f k l0 = some r) :
  Calls Tryd.prog 74 #[.slice A0 l0.length c0] w fun e w' => e = .returned (.bool r) ∧ Below w.heap.size w w' := by
 have HR0 := Aside0.mk hr0
 have HC0 := Aside0.mk hc0
 clear hr0 hc0
 have HB := Aside0.mk (Below.refl w.heap.size w)
 have H : ((spec_l01Cuts.f k l0).bind fun t75001 => (some (decide ((t75001.length : Int) > 0)))) = some r := h
 clear h
 replace H := Option.bind_eq_some_iff.mp H
 obtain ⟨t75001, A20, H⟩ := H
 replace H : (some (decide ((t75001.length : Int) > 0))) = some r := H
 have A2 := Aside0.mk A20
 clear A20
 obtain rfl := Option.some.inj H
 go_enter Tryd.func74, Tryd.ntmps74
 go_wp2_with (first | ((with_reducible refine gate_callee (f := 73) rfl ?_); refine goesM (some 4) Tryd.func73 #[.slice A0 l0.length c0] ?_; (with_reducible refine (spec_l01Cuts.calls k _ _ l0 t75001 _ ?side1 ?side2 A2.out).mono ?_); (case side1 => exact cpl HR0.out); (case side2 => exact HC0.out); rintro e w3 ⟨v75002, rfl, ho0, hb⟩; refine ⟨_, rfl, ?_⟩; have HO75003 := Aside0.mk (Kd.R_lower ho0 (below_size hbw)); replace HB := Aside0.mk (below_step hbw hb); (try clear hb); (try clear hb2); (try clear hk); (try clear hi); (try clear ho0); obtain ⟨Ao4, co4, eo4⟩ := Kd.R_slice HO75003.out; subst eo4))
 go_ret
 exact ⟨erf, hbw⟩
def spec_RunesTo.l0 : Nat → Int → List Int → Int → Option (Int)
 | 0, _, _, _ => none
 | k + 1, x1, x5, x6 => if x6 < (x5.length : Int) then (if 0 ≤ x6 then (if (rd x5 x6) = x1 then (some x6) else (spec_RunesTo.l0 k x1 x5 (wrap64 (x6 + 1)))) else (none)) else (some (-1))
def spec_RunesTo.f (k : Nat) (l0 : List Int) (a1 : Int) : Option (Int) := (spec_l01Cuts.f k l0).bind fun t127001 => (spec_RunesTo.l0 k a1 t127001 0)
theorem spec_RunesTo.mono_l : ∀ k, (∀ y0 y1 y2, LeO (spec_RunesTo.l0 k y0 y1 y2) (spec_RunesTo.l0 (k + 1) y0 y1 y2))
 | 0 => fun _ _ _ r h => by simp [spec_RunesTo.l0] at h
 | k + 1 => by
  have ih0 := spec_RunesTo.mono_l k
  ·intro y0 y1 y2
   unfold spec_RunesTo.l0
   repeat' first
   | (with_reducible exact ih0 _ _ _)
   | (with_reducible exact spec_l01Cuts.mono _ _)
   | (with_reducible exact LeO.refl _)
   | (with_reducible exact LeO.none _)
   | (with_reducible refine LeO.ite ?_ ?_)
   | (with_reducible refine LeO.bind ?_ (fun _ => ?_))
   | exact ih0 _ _ _
   | exact spec_l01Cuts.mono _ _
   | exact LeO.none _
   | refine LeO.ite ?_ ?_
   | refine LeO.bind ?_ (fun _ => ?_)
theorem spec_RunesTo.mono : ∀ a0 a1 k, LeO (spec_RunesTo.f k a0 a1) (spec_RunesTo.f (k + 1) a0 a1) := by
 intro a0 a1 k
 have ih0 := spec_RunesTo.mono_l k
 unfold spec_RunesTo.f
 repeat' first
   | (with_reducible exact ih0 _ _ _)
   | (with_reducible exact spec_l01Cuts.mono _ _)
   | (with_reducible exact LeO.refl _)
   | (with_reducible exact LeO.none _)
   | (with_reducible refine LeO.ite ?_ ?_)
   | (with_reducible refine LeO.bind ?_ (fun _ => ?_))
   | exact ih0 _ _ _
   | exact spec_l01Cuts.mono _ _
   | exact LeO.none _
   | refine LeO.ite ?_ ?_
   | refine LeO.bind ?_ (fun _ => ?_)
set_option maxHeartbeats 8000000 in
set_option maxRecDepth 100000 in
theorem spec_RunesTo.calls (k : Nat) (A0 : Option Addr) (c0 : Nat) (l0 : List Int) (a1 : Int) (r : Int) (w : World) (hr0 : Kd.C (Kd.int .u8) w A0 l0.length l0) (hc0 : l0.length ≤ c0) (h : spec_RunesTo.f k l0 a1 = some r) :
  Calls Tryd.prog 126 #[.slice A0 l0.length c0, .int .i64 a1] w fun e w' => e = .returned (.int .i64 r) ∧ Below w.heap.size w w' := by
 have HR0 := Aside0.mk hr0
 have HC0 := Aside0.mk hc0
 clear hr0 hc0
 have HB := Aside0.mk (Below.refl w.heap.size w)
 have H : ((spec_l01Cuts.f k l0).bind fun t127001 => (spec_RunesTo.l0 k a1 t127001 0)) = some r := h
 clear h
 replace H := Option.bind_eq_some_iff.mp H
 obtain ⟨t127001, A30, H⟩ := H
 replace H : (spec_RunesTo.l0 k a1 t127001 0) = some r := H
 have A3 := Aside0.mk A30
 clear A30
 have H' := Aside0.mk H
 clear H
 go_enter Tryd.func126, Tryd.ntmps126
 go_wp2_with (first | ((with_reducible refine gate_callee (f := 73) rfl ?_); refine goesM (some 8) Tryd.func73 #[.slice A0 l0.length c0] ?_; (with_reducible refine (spec_l01Cuts.calls k _ _ l0 t127001 _ ?side1 ?side2 A3.out).mono ?_); (case side1 => exact cpl HR0.out); (case side2 => exact HC0.out); rintro e w4 ⟨v127002, rfl, ho0, hb⟩; refine ⟨_, rfl, ?_⟩; have HO127003 := Aside0.mk (Kd.R_lower ho0 (below_size hbw)); replace HB := Aside0.mk (below_step hbw hb); (try clear hb); (try clear hb2); (try clear hk); (try clear hi); (try clear ho0)))
 go_loopg [6] k (fun kq v6 w' => ∃ (x6_1 : Int), v6 = .int .i64 x6_1 ∧ Aside0 (spec_RunesTo.l0 kq a1 t127001 x6_1 = some r) ∧ Aside0 (kq ≤ k) ∧ Aside0 (Kd.R (Kd.int .i64) 3 w' w.heap.size (fun _ => True) v127002 t127001) ∧ Aside0 (Below w.heap.size w w'))
 case atStart => exact ⟨(0), rfs, H', ⟨Nat.le_refl _⟩, ⟨(hrnR HO127003)⟩, ⟨hbw⟩⟩
 case round =>
  clear H'
  try clear c1
  try clear p2
  obtain ⟨x6_1, rfl, HA, HK1, HO_5, HB⟩ := hrel
  cases gk with
  | zero => exact absurd HA.out (by simp [spec_RunesTo.l0])
  | succ k1 =>
   have H := HA.out
   clear HA
   simp only [spec_RunesTo.l0] at H
   by_cases c5 : x6_1 < (t127001.length : Int)
   ·rw [if_pos c5] at H
    have c5b0 : decide (x6_1 < (t127001.length : Int)) = true := decide_eq_true c5
    clear c5
    by_cases c6 : 0 ≤ x6_1
    ·rw [if_pos c6] at H
     have c6b0 : decide (0 ≤ x6_1) = true := decide_eq_true c6
     clear c6
     by_cases c7 : (rd t127001 x6_1) = a1
     ·rw [if_pos c7] at H
      have c7b0 : ((rd t127001 x6_1) == a1) = true := beq_iff_eq.mpr c7
      have c7b1 : ((rd t127001 x6_1) != a1) = false := bne_eq_false_iff_eq.mpr c7
      clear c7
      obtain rfl := Option.some.inj H
      obtain ⟨Ao8, co8, eo8⟩ := Kd.R_slice HO_5.out
      subst eo8
      have p127004 : 0 ≤ (x6_1 : Int) := odt
      have q127004 : x6_1 < (t127001.length : Int) := odt
      obtain ⟨ad127004, e127004, hx127004_0⟩ := Kd.at_int (Kd.R_reads' HO_5.out).2.2 x6_1 p127004 q127004
      cases e127004
      replace p127004 := eq_true p127004
      replace q127004 := eq_true q127004
      go_wp2
      go_ret
      exact ⟨erf, hbw⟩
     ·rw [if_neg c7] at H
      have c7b0 : ((rd t127001 x6_1) == a1) = false := beq_eq_false_iff_ne.mpr c7
      have c7b1 : ((rd t127001 x6_1) != a1) = true := bne_iff_ne.mpr c7
      have H' := Aside0.mk H
      clear H
      obtain ⟨Ao9, co9, eo9⟩ := Kd.R_slice HO_5.out
      subst eo9
      have p127004 : 0 ≤ (x6_1 : Int) := odt
      have q127004 : x6_1 < (t127001.length : Int) := odt
      obtain ⟨ad127004, e127004, hx127004_0⟩ := Kd.at_int (Kd.R_reads' HO_5.out).2.2 x6_1 p127004 q127004
      cases e127004
      replace p127004 := eq_true p127004
      replace q127004 := eq_true q127004
      go_wp2
      go_roundg k1
      case measure => have := HK1.out; omega
      case rel => exact ⟨(wrap64 (x6_1 + 1)), rfs, H', ⟨by have := HK1.out; omega⟩, ⟨(hrnR HO_5)⟩, ⟨hbw⟩⟩
    ·rw [if_neg c6] at H
     exact absurd H (by simp)
   ·rw [if_neg c5] at H
    have c5b0 : decide (x6_1 < (t127001.length : Int)) = false := decide_eq_false c5
    clear c5
    obtain rfl := Option.some.inj H
    obtain ⟨Ao10, co10, eo10⟩ := Kd.R_slice HO_5.out
    subst eo10
    go_wp2
    go_ret
    exact ⟨erf, hbw⟩
def spec_CutOk.f (k : Nat) (l0 : List Int) (a1 : Int) : Option (Bool) := (spec_RunesTo.f k l0 a1).bind fun t76001 => (some (decide (t76001 ≥ 0)))
theorem spec_CutOk.mono : ∀ a0 a1 k, LeO (spec_CutOk.f k a0 a1) (spec_CutOk.f (k + 1) a0 a1) := by
 intro a0 a1 k
 unfold spec_CutOk.f
 repeat' first
   | (with_reducible exact spec_RunesTo.mono _ _ _)
   | (with_reducible exact LeO.refl _)
   | (with_reducible exact LeO.none _)
   | (with_reducible refine LeO.ite ?_ ?_)
   | (with_reducible refine LeO.bind ?_ (fun _ => ?_))
   | exact spec_RunesTo.mono _ _ _
   | exact LeO.none _
   | refine LeO.ite ?_ ?_
   | refine LeO.bind ?_ (fun _ => ?_)
set_option maxHeartbeats 8000000 in
set_option maxRecDepth 100000 in
theorem spec_CutOk.calls (k : Nat) (A0 : Option Addr) (c0 : Nat) (l0 : List Int) (a1 : Int) (r : Bool) (w : World) (hr0 : Kd.C (Kd.int .u8) w A0 l0.length l0) (hc0 : l0.length ≤ c0) (h : spec_CutOk.f k l0 a1 = some r) :
  Calls Tryd.prog 75 #[.slice A0 l0.length c0, .int .i64 a1] w fun e w' => e = .returned (.bool r) ∧ Below w.heap.size w w' := by
 have HR0 := Aside0.mk hr0
 have HC0 := Aside0.mk hc0
 clear hr0 hc0
 have HB := Aside0.mk (Below.refl w.heap.size w)
 have H : ((spec_RunesTo.f k l0 a1).bind fun t76001 => (some (decide (t76001 ≥ 0)))) = some r := h
 clear h
 replace H := Option.bind_eq_some_iff.mp H
 obtain ⟨t76001, A30, H⟩ := H
 replace H : (some (decide (t76001 ≥ 0))) = some r := H
 have A3 := Aside0.mk A30
 clear A30
 obtain rfl := Option.some.inj H
 go_enter Tryd.func75, Tryd.ntmps75
 go_wp2_with (first | ((with_reducible refine gate_callee (f := 126) rfl ?_); refine goesM (some 7) Tryd.func126 #[.slice A0 l0.length c0, .int .i64 a1] ?_; (with_reducible refine (spec_RunesTo.calls k _ _ l0 a1 t76001 _ ?side1 ?side2 A3.out).mono ?_); (case side1 => exact cpl HR0.out); (case side2 => exact HC0.out); rintro e w4 ⟨rfl, hb⟩; refine ⟨_, rfl, ?_⟩; replace HB := Aside0.mk (below_step hbw hb); (try clear hb); (try clear hb2); (try clear hk); (try clear hi)))
 go_ret
 exact ⟨erf, hbw⟩
def spec_EditOk.j0 : Nat → List Int → Bool → Int → Int → List Int → Option (Bool)
 | 0, _, _, _, _, _ => none
 | k + 1, x0, x45, x23002000, x23002001, x23002002 => if x45 = true then (some false) else (some (decide ((wrap64 ((wrap64 ((x0.length : Int) - x23002001)) + (x23002002.length : Int))) ≤ 400)))
def spec_EditOk.f (k : Nat) (l0 : List Int) (a1_0 : Int) (a1_1 : Int) (l1_2 : List Int) : Option (Bool) := (spec_TextOk.f k l0).bind fun t23002 => (if t23002 = true then ((spec_CutOk.f k l0 a1_0).bind fun t23003 => (if t23003 = true then (if a1_1 < 0 then (spec_EditOk.j0 k l0 true a1_0 a1_1 l1_2) else (if a1_1 > (wrap64 ((l0.length : Int) - a1_0)) then (spec_EditOk.j0 k l0 true a1_0 a1_1 l1_2) else ((spec_CutOk.f k l0 (wrap64 (a1_0 + a1_1))).bind fun t23004 => (if t23004 = true then ((spec_TextOk.f k l1_2).bind fun t23005 => (spec_EditOk.j0 k l0 (!t23005) a1_0 a1_1 l1_2)) else (spec_EditOk.j0 k l0 true a1_0 a1_1 l1_2))))) else (spec_EditOk.j0 k l0 true a1_0 a1_1 l1_2))) else (spec_EditOk.j0 k l0 true a1_0 a1_1 l1_2))
theorem spec_EditOk.mono_l : ∀ k, (∀ y0 y1 y2 y3 y4, LeO (spec_EditOk.j0 k y0 y1 y2 y3 y4) (spec_EditOk.j0 (k + 1) y0 y1 y2 y3 y4))
 | 0 => fun _ _ _ _ _ r h => by simp [spec_EditOk.j0] at h
 | k + 1 => by
  have ih0 := spec_EditOk.mono_l k
  ·intro y0 y1 y2 y3 y4
   unfold spec_EditOk.j0
   repeat' first
   | (with_reducible exact ih0 _ _ _ _ _)
   | (with_reducible exact spec_CutOk.mono _ _ _)
   | (with_reducible exact spec_TextOk.mono _ _)
   | (with_reducible exact LeO.refl _)
   | (with_reducible exact LeO.none _)
   | (with_reducible refine LeO.ite ?_ ?_)
   | (with_reducible refine LeO.bind ?_ (fun _ => ?_))
   | exact ih0 _ _ _ _ _
   | exact spec_CutOk.mono _ _ _
   | exact spec_TextOk.mono _ _
   | exact LeO.none _
   | refine LeO.ite ?_ ?_
   | refine LeO.bind ?_ (fun _ => ?_)
theorem spec_EditOk.mono : ∀ a0 a1 a2 a3 k, LeO (spec_EditOk.f k a0 a1 a2 a3) (spec_EditOk.f (k + 1) a0 a1 a2 a3) := by
 intro a0 a1 a2 a3 k
 have ih0 := spec_EditOk.mono_l k
 unfold spec_EditOk.f
 repeat' first
   | (with_reducible exact ih0 _ _ _ _ _)
   | (with_reducible exact spec_CutOk.mono _ _ _)
   | (with_reducible exact spec_TextOk.mono _ _)
   | (with_reducible exact LeO.refl _)
   | (with_reducible exact LeO.none _)
   | (with_reducible refine LeO.ite ?_ ?_)
   | (with_reducible refine LeO.bind ?_ (fun _ => ?_))
   | exact ih0 _ _ _ _ _
   | exact spec_CutOk.mono _ _ _
   | exact spec_TextOk.mono _ _
   | exact LeO.none _
   | refine LeO.ite ?_ ?_
   | refine LeO.bind ?_ (fun _ => ?_)
set_option maxHeartbeats 8000000 in
set_option maxRecDepth 100000 in
theorem spec_EditOk.calls (k : Nat) (A0 : Option Addr) (c0 : Nat) (l0 : List Int) (a1_0 : Int) (a1_1 : Int) (A1_2 : Option Addr) (c1_2 : Nat) (l1_2 : List Int) (r : Bool) (w : World) (hr0 : Kd.C (Kd.int .u8) w A0 l0.length l0) (hc0 : l0.length ≤ c0) (hr1_2 : Kd.C (Kd.int .u8) w A1_2 l1_2.length l1_2) (hc1_2 : l1_2.length ≤ c1_2) (h : spec_EditOk.f k l0 a1_0 a1_1 l1_2 = some r) :
  Calls Tryd.prog 22 #[.slice A0 l0.length c0, .agg #[.int .i64 a1_0, .int .i64 a1_1, .slice A1_2 l1_2.length c1_2]] w fun e w' => e = .returned (.bool r) ∧ Below w.heap.size w w' := by
 have hu25 := Tryd.underlying25
 have HR0 := Aside0.mk hr0
 have HC0 := Aside0.mk hc0
 clear hr0 hc0
 have HR1_2 := Aside0.mk hr1_2
 have HC1_2 := Aside0.mk hc1_2
 clear hr1_2 hc1_2
 have HB := Aside0.mk (Below.refl w.heap.size w)
 have H : ((spec_TextOk.f k l0).bind fun t23002 => (if t23002 = true then ((spec_CutOk.f k l0 a1_0).bind fun t23003 => (if t23003 = true then (if a1_1 < 0 then (spec_EditOk.j0 k l0 true a1_0 a1_1 l1_2) else (if a1_1 > (wrap64 ((l0.length : Int) - a1_0)) then (spec_EditOk.j0 k l0 true a1_0 a1_1 l1_2) else ((spec_CutOk.f k l0 (wrap64 (a1_0 + a1_1))).bind fun t23004 => (if t23004 = true then ((spec_TextOk.f k l1_2).bind fun t23005 => (spec_EditOk.j0 k l0 (!t23005) a1_0 a1_1 l1_2)) else (spec_EditOk.j0 k l0 true a1_0 a1_1 l1_2))))) else (spec_EditOk.j0 k l0 true a1_0 a1_1 l1_2))) else (spec_EditOk.j0 k l0 true a1_0 a1_1 l1_2))) = some r := h
 clear h
 have HC3 := Aside0.mk H
 clear H
 go_enter Tryd.func22, Tryd.ntmps22
 go_upto_region 1 with (first | ((with_reducible refine gate_dst (N := 3) rfl ?_); (try (refine gate_guard (by rfl) ?_; dsimp only)); refine boxE 3 #[.int .i64 a1_0, .int .i64 a1_1, .slice A1_2 l1_2.length c1_2] 25 ?_; intro gb23001 hg w4 BK23001 hb; have GW23001 := Aside0.mk (gsz hg hbw : w.heap.size ≤ gb23001); have GE23001 := GW23001; replace HB := Aside0.mk (below_step hbw hb); clear hb hg))
 (try simp only [Act.put, List.setIfInBounds_toArray, List.set_cons_zero, List.set_cons_succ])
 go_cut [45] (fun v45 wc => ∃ (kq : Nat) (x45_2 : Bool), v45 = .bool x45_2 ∧ Aside0 (spec_EditOk.j0 kq l0 x45_2 a1_0 a1_1 l1_2 = some r) ∧ Aside0 (kq ≤ k) ∧ Aside0 (wc.heap[gb23001]? = some (.cells #[.int .i64 a1_0, .int .i64 a1_1, (.slice A1_2 l1_2.length c1_2)] 25 (0, 0))) ∧ Aside0 (Below w.heap.size w wc))
 case first =>
  have H := HC3.out
  clear HC3
  replace H := Option.bind_eq_some_iff.mp H
  obtain ⟨t23002, A50, H⟩ := H
  replace H : (if t23002 = true then ((spec_CutOk.f k l0 a1_0).bind fun t23003 => (if t23003 = true then (if a1_1 < 0 then (spec_EditOk.j0 k l0 true a1_0 a1_1 l1_2) else (if a1_1 > (wrap64 ((l0.length : Int) - a1_0)) then (spec_EditOk.j0 k l0 true a1_0 a1_1 l1_2) else ((spec_CutOk.f k l0 (wrap64 (a1_0 + a1_1))).bind fun t23004 => (if t23004 = true then ((spec_TextOk.f k l1_2).bind fun t23005 => (spec_EditOk.j0 k l0 (!t23005) a1_0 a1_1 l1_2)) else (spec_EditOk.j0 k l0 true a1_0 a1_1 l1_2))))) else (spec_EditOk.j0 k l0 true a1_0 a1_1 l1_2))) else (spec_EditOk.j0 k l0 true a1_0 a1_1 l1_2)) = some r := H
  have A5 := Aside0.mk A50
  clear A50
  by_cases c6 : t23002 = true
  ·subst c6
   have H1 : ((spec_CutOk.f k l0 a1_0).bind fun t23003 => (if t23003 = true then (if a1_1 < 0 then (spec_EditOk.j0 k l0 true a1_0 a1_1 l1_2) else (if a1_1 > (wrap64 ((l0.length : Int) - a1_0)) then (spec_EditOk.j0 k l0 true a1_0 a1_1 l1_2) else ((spec_CutOk.f k l0 (wrap64 (a1_0 + a1_1))).bind fun t23004 => (if t23004 = true then ((spec_TextOk.f k l1_2).bind fun t23005 => (spec_EditOk.j0 k l0 (!t23005) a1_0 a1_1 l1_2)) else (spec_EditOk.j0 k l0 true a1_0 a1_1 l1_2))))) else (spec_EditOk.j0 k l0 true a1_0 a1_1 l1_2))) = some r := by rw [if_pos rfl] at H; exact H
   clear H
   have H := H1
   clear H1
   replace H := Option.bind_eq_some_iff.mp H
   obtain ⟨t23003, A70, H⟩ := H
   replace H : (if t23003 = true then (if a1_1 < 0 then (spec_EditOk.j0 k l0 true a1_0 a1_1 l1_2) else (if a1_1 > (wrap64 ((l0.length : Int) - a1_0)) then (spec_EditOk.j0 k l0 true a1_0 a1_1 l1_2) else ((spec_CutOk.f k l0 (wrap64 (a1_0 + a1_1))).bind fun t23004 => (if t23004 = true then ((spec_TextOk.f k l1_2).bind fun t23005 => (spec_EditOk.j0 k l0 (!t23005) a1_0 a1_1 l1_2)) else (spec_EditOk.j0 k l0 true a1_0 a1_1 l1_2))))) else (spec_EditOk.j0 k l0 true a1_0 a1_1 l1_2)) = some r := H
   have A7 := Aside0.mk A70
   clear A70
   by_cases c8 : t23003 = true
   ·subst c8
    have H1 : (if a1_1 < 0 then (spec_EditOk.j0 k l0 true a1_0 a1_1 l1_2) else (if a1_1 > (wrap64 ((l0.length : Int) - a1_0)) then (spec_EditOk.j0 k l0 true a1_0 a1_1 l1_2) else ((spec_CutOk.f k l0 (wrap64 (a1_0 + a1_1))).bind fun t23004 => (if t23004 = true then ((spec_TextOk.f k l1_2).bind fun t23005 => (spec_EditOk.j0 k l0 (!t23005) a1_0 a1_1 l1_2)) else (spec_EditOk.j0 k l0 true a1_0 a1_1 l1_2))))) = some r := by rw [if_pos rfl] at H; exact H
    clear H
    have H := H1
    clear H1
    by_cases c9 : a1_1 < 0
    ·rw [if_pos c9] at H
     have c9b0 : decide (a1_1 < 0) = true := decide_eq_true c9
     clear c9
     (first | rw [c9b0] | (simp only [i64_w, i32_w]; rw [c9b0]) | skip)
     have H' := Aside0.mk H
     clear H
     go_wp2_with (first | ((with_reducible refine gate_callee (f := 74) rfl ?_); refine goesM (some 6) Tryd.func74 #[.slice A0 l0.length c0] ?_; (with_reducible refine (spec_TextOk.calls k _ _ l0 true _ ?side1 ?side2 A5.out).mono ?_); (case side1 => exact cpl (Kd.C_below HR0.out HB.out)); (case side2 => exact HC0.out); rintro e w10 ⟨rfl, hb⟩; refine ⟨_, rfl, ?_⟩; replace BK23001 := Aside0.mk (bkb BK23001 hb); replace HB := Aside0.mk (below_step hbs hb); (try clear hb); (try clear hb2); (try clear hk); (try clear hi); have hcz11_0 : w10.cell? ⟨gb23001, 0, none⟩ = some (.int .i64 a1_0) := (blk_cell BK23001.out 0).trans rfl; have hcz11_1 : w10.cell? ⟨gb23001, 1, none⟩ = some (.int .i64 a1_1) := (blk_cell BK23001.out 1).trans rfl; have hcz11_2 : w10.cell? ⟨gb23001, 2, none⟩ = some (.slice A1_2 l1_2.length c1_2) := (blk_cell BK23001.out 2).trans rfl; have hfz11_0 := blk_frozen BK23001.out 0; have hfz11_1 := blk_frozen BK23001.out 1; have hfz11_2 := blk_frozen BK23001.out 2) | (go_at_call 75; (with_reducible refine (spec_CutOk.calls k _ _ l0 a1_0 true _ ?side1 ?side2 A7.out).mono ?_); (case side1 => exact cpl (Kd.C_below HR0.out HB.out)); (case side2 => exact HC0.out); rintro e w12 ⟨rfl, hb⟩; replace BK23001 := Aside0.mk (bkb BK23001 hb); replace HB := Aside0.mk (below_step hbs hb); (try clear hb); (try clear hb2); (try clear hk); (try clear hi); have hcz13_0 : w12.cell? ⟨gb23001, 0, none⟩ = some (.int .i64 a1_0) := (blk_cell BK23001.out 0).trans rfl; have hcz13_1 : w12.cell? ⟨gb23001, 1, none⟩ = some (.int .i64 a1_1) := (blk_cell BK23001.out 1).trans rfl; have hcz13_2 : w12.cell? ⟨gb23001, 2, none⟩ = some (.slice A1_2 l1_2.length c1_2) := (blk_cell BK23001.out 2).trans rfl; have hfz13_0 := blk_frozen BK23001.out 0; have hfz13_1 := blk_frozen BK23001.out 1; have hfz13_2 := blk_frozen BK23001.out 2))
     go_meet
     case rel => exact ⟨_, (true), rfs, H', ⟨by first | omega | exact Nat.le_refl _⟩, ⟨by refine pB ?_; exact BK23001.out⟩, ⟨hbs⟩⟩
    ·rw [if_neg c9] at H
     have c9b0 : decide (a1_1 < 0) = false := decide_eq_false c9
     clear c9
     (first | rw [c9b0] | (simp only [i64_w, i32_w]; rw [c9b0]) | skip)
     by_cases c14 : a1_1 > (wrap64 ((l0.length : Int) - a1_0))
     ·rw [if_pos c14] at H
      have c14b0 : decide ((wrap64 ((l0.length : Int) - a1_0)) < a1_1) = true := decide_eq_true c14
      clear c14
      have H' := Aside0.mk H
      clear H
      go_wp2_with (first | ((with_reducible refine gate_callee (f := 74) rfl ?_); refine goesM (some 6) Tryd.func74 #[.slice A0 l0.length c0] ?_; (with_reducible refine (spec_TextOk.calls k _ _ l0 true _ ?side1 ?side2 A5.out).mono ?_); (case side1 => exact cpl (Kd.C_below HR0.out HB.out)); (case side2 => exact HC0.out); rintro e w15 ⟨rfl, hb⟩; refine ⟨_, rfl, ?_⟩; replace BK23001 := Aside0.mk (bkb BK23001 hb); replace HB := Aside0.mk (below_step hbs hb); (try clear hb); (try clear hb2); (try clear hk); (try clear hi); have hcz16_0 : w15.cell? ⟨gb23001, 0, none⟩ = some (.int .i64 a1_0) := (blk_cell BK23001.out 0).trans rfl; have hcz16_1 : w15.cell? ⟨gb23001, 1, none⟩ = some (.int .i64 a1_1) := (blk_cell BK23001.out 1).trans rfl; have hcz16_2 : w15.cell? ⟨gb23001, 2, none⟩ = some (.slice A1_2 l1_2.length c1_2) := (blk_cell BK23001.out 2).trans rfl; have hfz16_0 := blk_frozen BK23001.out 0; have hfz16_1 := blk_frozen BK23001.out 1; have hfz16_2 := blk_frozen BK23001.out 2) | (go_at_call 75; (with_reducible refine (spec_CutOk.calls k _ _ l0 a1_0 true _ ?side1 ?side2 A7.out).mono ?_); (case side1 => exact cpl (Kd.C_below HR0.out HB.out)); (case side2 => exact HC0.out); rintro e w17 ⟨rfl, hb⟩; replace BK23001 := Aside0.mk (bkb BK23001 hb); replace HB := Aside0.mk (below_step hbs hb); (try clear hb); (try clear hb2); (try clear hk); (try clear hi); have hcz18_0 : w17.cell? ⟨gb23001, 0, none⟩ = some (.int .i64 a1_0) := (blk_cell BK23001.out 0).trans rfl; have hcz18_1 : w17.cell? ⟨gb23001, 1, none⟩ = some (.int .i64 a1_1) := (blk_cell BK23001.out 1).trans rfl; have hcz18_2 : w17.cell? ⟨gb23001, 2, none⟩ = some (.slice A1_2 l1_2.length c1_2) := (blk_cell BK23001.out 2).trans rfl; have hfz18_0 := blk_frozen BK23001.out 0; have hfz18_1 := blk_frozen BK23001.out 1; have hfz18_2 := blk_frozen BK23001.out 2))
      go_meet
      case rel => exact ⟨_, (true), rfs, H', ⟨by first | omega | exact Nat.le_refl _⟩, ⟨by refine pB ?_; exact BK23001.out⟩, ⟨hbs⟩⟩
     ·rw [if_neg c14] at H
      have c14b0 : decide ((wrap64 ((l0.length : Int) - a1_0)) < a1_1) = false := decide_eq_false c14
      clear c14
      replace H := Option.bind_eq_some_iff.mp H
      obtain ⟨t23004, A190, H⟩ := H
      replace H : (if t23004 = true then ((spec_TextOk.f k l1_2).bind fun t23005 => (spec_EditOk.j0 k l0 (!t23005) a1_0 a1_1 l1_2)) else (spec_EditOk.j0 k l0 true a1_0 a1_1 l1_2)) = some r := H
      have A19 := Aside0.mk A190
      clear A190
      by_cases c20 : t23004 = true
      ·subst c20
       have H1 : ((spec_TextOk.f k l1_2).bind fun t23005 => (spec_EditOk.j0 k l0 (!t23005) a1_0 a1_1 l1_2)) = some r := by rw [if_pos rfl] at H; exact H
       clear H
       have H := H1
       clear H1
       replace H := Option.bind_eq_some_iff.mp H
       obtain ⟨t23005, A210, H⟩ := H
       replace H : (spec_EditOk.j0 k l0 (!t23005) a1_0 a1_1 l1_2) = some r := H
       have A21 := Aside0.mk A210
       clear A210
       have H' := Aside0.mk H
       clear H
       go_wp2_with (first | ((with_reducible refine gate_callee (f := 74) rfl ?_); refine goesM (some 6) Tryd.func74 #[.slice A0 l0.length c0] ?_; (with_reducible refine (spec_TextOk.calls k _ _ l0 true _ ?side1 ?side2 A5.out).mono ?_); (case side1 => exact cpl (Kd.C_below HR0.out HB.out)); (case side2 => exact HC0.out); rintro e w22 ⟨rfl, hb⟩; refine ⟨_, rfl, ?_⟩; replace BK23001 := Aside0.mk (bkb BK23001 hb); replace HB := Aside0.mk (below_step hbs hb); (try clear hb); (try clear hb2); (try clear hk); (try clear hi); have hcz23_0 : w22.cell? ⟨gb23001, 0, none⟩ = some (.int .i64 a1_0) := (blk_cell BK23001.out 0).trans rfl; have hcz23_1 : w22.cell? ⟨gb23001, 1, none⟩ = some (.int .i64 a1_1) := (blk_cell BK23001.out 1).trans rfl; have hcz23_2 : w22.cell? ⟨gb23001, 2, none⟩ = some (.slice A1_2 l1_2.length c1_2) := (blk_cell BK23001.out 2).trans rfl; have hfz23_0 := blk_frozen BK23001.out 0; have hfz23_1 := blk_frozen BK23001.out 1; have hfz23_2 := blk_frozen BK23001.out 2) | (go_at_call 75; (with_reducible refine (spec_CutOk.calls k _ _ l0 a1_0 true _ ?side1 ?side2 A7.out).mono ?_); (case side1 => exact cpl (Kd.C_below HR0.out HB.out)); (case side2 => exact HC0.out); rintro e w24 ⟨rfl, hb⟩; replace BK23001 := Aside0.mk (bkb BK23001 hb); replace HB := Aside0.mk (below_step hbs hb); (try clear hb); (try clear hb2); (try clear hk); (try clear hi); have hcz25_0 : w24.cell? ⟨gb23001, 0, none⟩ = some (.int .i64 a1_0) := (blk_cell BK23001.out 0).trans rfl; have hcz25_1 : w24.cell? ⟨gb23001, 1, none⟩ = some (.int .i64 a1_1) := (blk_cell BK23001.out 1).trans rfl; have hcz25_2 : w24.cell? ⟨gb23001, 2, none⟩ = some (.slice A1_2 l1_2.length c1_2) := (blk_cell BK23001.out 2).trans rfl; have hfz25_0 := blk_frozen BK23001.out 0; have hfz25_1 := blk_frozen BK23001.out 1; have hfz25_2 := blk_frozen BK23001.out 2) | (go_at_call 75; (with_reducible refine (spec_CutOk.calls k _ _ l0 (wrap64 (a1_0 + a1_1)) true _ ?side1 ?side2 A19.out).mono ?_); (case side1 => exact cpl (Kd.C_below HR0.out HB.out)); (case side2 => exact HC0.out); rintro e w26 ⟨rfl, hb⟩; replace BK23001 := Aside0.mk (bkb BK23001 hb); replace HB := Aside0.mk (below_step hbs hb); (try clear hb); (try clear hb2); (try clear hk); (try clear hi); have hcz27_0 : w26.cell? ⟨gb23001, 0, none⟩ = some (.int .i64 a1_0) := (blk_cell BK23001.out 0).trans rfl; have hcz27_1 : w26.cell? ⟨gb23001, 1, none⟩ = some (.int .i64 a1_1) := (blk_cell BK23001.out 1).trans rfl; have hcz27_2 : w26.cell? ⟨gb23001, 2, none⟩ = some (.slice A1_2 l1_2.length c1_2) := (blk_cell BK23001.out 2).trans rfl; have hfz27_0 := blk_frozen BK23001.out 0; have hfz27_1 := blk_frozen BK23001.out 1; have hfz27_2 := blk_frozen BK23001.out 2) | (go_at_call 74; (with_reducible refine (spec_TextOk.calls k _ _ l1_2 t23005 _ ?side1 ?side2 A21.out).mono ?_); (case side1 => exact cpl (Kd.C_below HR1_2.out HB.out)); (case side2 => exact HC1_2.out); rintro e w28 ⟨rfl, hb⟩; replace BK23001 := Aside0.mk (bkb BK23001 hb); replace HB := Aside0.mk (below_step hbs hb); (try clear hb); (try clear hb2); (try clear hk); (try clear hi)))
       go_meet
       case rel => exact ⟨_, (!t23005), rfs, H', ⟨by first | omega | exact Nat.le_refl _⟩, ⟨by refine pB ?_; exact BK23001.out⟩, ⟨hbs⟩⟩
      ·replace c20 := Bool.eq_false_iff.mpr c20
       subst c20
       have H1 : (spec_EditOk.j0 k l0 true a1_0 a1_1 l1_2) = some r := by rw [if_neg (show ¬ (false = true) by decide)] at H; exact H
       clear H
       have H := H1
       clear H1
       have H' := Aside0.mk H
       clear H
       go_wp2_with (first | ((with_reducible refine gate_callee (f := 74) rfl ?_); refine goesM (some 6) Tryd.func74 #[.slice A0 l0.length c0] ?_; (with_reducible refine (spec_TextOk.calls k _ _ l0 true _ ?side1 ?side2 A5.out).mono ?_); (case side1 => exact cpl (Kd.C_below HR0.out HB.out)); (case side2 => exact HC0.out); rintro e w29 ⟨rfl, hb⟩; refine ⟨_, rfl, ?_⟩; replace BK23001 := Aside0.mk (bkb BK23001 hb); replace HB := Aside0.mk (below_step hbs hb); (try clear hb); (try clear hb2); (try clear hk); (try clear hi); have hcz30_0 : w29.cell? ⟨gb23001, 0, none⟩ = some (.int .i64 a1_0) := (blk_cell BK23001.out 0).trans rfl; have hcz30_1 : w29.cell? ⟨gb23001, 1, none⟩ = some (.int .i64 a1_1) := (blk_cell BK23001.out 1).trans rfl; have hcz30_2 : w29.cell? ⟨gb23001, 2, none⟩ = some (.slice A1_2 l1_2.length c1_2) := (blk_cell BK23001.out 2).trans rfl; have hfz30_0 := blk_frozen BK23001.out 0; have hfz30_1 := blk_frozen BK23001.out 1; have hfz30_2 := blk_frozen BK23001.out 2) | (go_at_call 75; (with_reducible refine (spec_CutOk.calls k _ _ l0 a1_0 true _ ?side1 ?side2 A7.out).mono ?_); (case side1 => exact cpl (Kd.C_below HR0.out HB.out)); (case side2 => exact HC0.out); rintro e w31 ⟨rfl, hb⟩; replace BK23001 := Aside0.mk (bkb BK23001 hb); replace HB := Aside0.mk (below_step hbs hb); (try clear hb); (try clear hb2); (try clear hk); (try clear hi); have hcz32_0 : w31.cell? ⟨gb23001, 0, none⟩ = some (.int .i64 a1_0) := (blk_cell BK23001.out 0).trans rfl; have hcz32_1 : w31.cell? ⟨gb23001, 1, none⟩ = some (.int .i64 a1_1) := (blk_cell BK23001.out 1).trans rfl; have hcz32_2 : w31.cell? ⟨gb23001, 2, none⟩ = some (.slice A1_2 l1_2.length c1_2) := (blk_cell BK23001.out 2).trans rfl; have hfz32_0 := blk_frozen BK23001.out 0; have hfz32_1 := blk_frozen BK23001.out 1; have hfz32_2 := blk_frozen BK23001.out 2) | (go_at_call 75; (with_reducible refine (spec_CutOk.calls k _ _ l0 (wrap64 (a1_0 + a1_1)) false _ ?side1 ?side2 A19.out).mono ?_); (case side1 => exact cpl (Kd.C_below HR0.out HB.out)); (case side2 => exact HC0.out); rintro e w33 ⟨rfl, hb⟩; replace BK23001 := Aside0.mk (bkb BK23001 hb); replace HB := Aside0.mk (below_step hbs hb); (try clear hb); (try clear hb2); (try clear hk); (try clear hi)))
       go_meet
       case rel => exact ⟨_, (true), rfs, H', ⟨by first | omega | exact Nat.le_refl _⟩, ⟨by refine pB ?_; exact BK23001.out⟩, ⟨hbs⟩⟩
   ·replace c8 := Bool.eq_false_iff.mpr c8
    subst c8
    have H1 : (spec_EditOk.j0 k l0 true a1_0 a1_1 l1_2) = some r := by rw [if_neg (show ¬ (false = true) by decide)] at H; exact H
    clear H
    have H := H1
    clear H1
    have H' := Aside0.mk H
    clear H
    go_wp2_with (first | ((with_reducible refine gate_callee (f := 74) rfl ?_); refine goesM (some 6) Tryd.func74 #[.slice A0 l0.length c0] ?_; (with_reducible refine (spec_TextOk.calls k _ _ l0 true _ ?side1 ?side2 A5.out).mono ?_); (case side1 => exact cpl (Kd.C_below HR0.out HB.out)); (case side2 => exact HC0.out); rintro e w34 ⟨rfl, hb⟩; refine ⟨_, rfl, ?_⟩; replace BK23001 := Aside0.mk (bkb BK23001 hb); replace HB := Aside0.mk (below_step hbs hb); (try clear hb); (try clear hb2); (try clear hk); (try clear hi); have hcz35_0 : w34.cell? ⟨gb23001, 0, none⟩ = some (.int .i64 a1_0) := (blk_cell BK23001.out 0).trans rfl; have hcz35_1 : w34.cell? ⟨gb23001, 1, none⟩ = some (.int .i64 a1_1) := (blk_cell BK23001.out 1).trans rfl; have hcz35_2 : w34.cell? ⟨gb23001, 2, none⟩ = some (.slice A1_2 l1_2.length c1_2) := (blk_cell BK23001.out 2).trans rfl; have hfz35_0 := blk_frozen BK23001.out 0; have hfz35_1 := blk_frozen BK23001.out 1; have hfz35_2 := blk_frozen BK23001.out 2) | (go_at_call 75; (with_reducible refine (spec_CutOk.calls k _ _ l0 a1_0 false _ ?side1 ?side2 A7.out).mono ?_); (case side1 => exact cpl (Kd.C_below HR0.out HB.out)); (case side2 => exact HC0.out); rintro e w36 ⟨rfl, hb⟩; replace BK23001 := Aside0.mk (bkb BK23001 hb); replace HB := Aside0.mk (below_step hbs hb); (try clear hb); (try clear hb2); (try clear hk); (try clear hi)))
    go_meet
    case rel => exact ⟨_, (true), rfs, H', ⟨by first | omega | exact Nat.le_refl _⟩, ⟨by refine pB ?_; exact BK23001.out⟩, ⟨hbs⟩⟩
  ·replace c6 := Bool.eq_false_iff.mpr c6
   subst c6
   have H1 : (spec_EditOk.j0 k l0 true a1_0 a1_1 l1_2) = some r := by rw [if_neg (show ¬ (false = true) by decide)] at H; exact H
   clear H
   have H := H1
   clear H1
   have H' := Aside0.mk H
   clear H
   go_wp2_with (first | ((with_reducible refine gate_callee (f := 74) rfl ?_); refine goesM (some 6) Tryd.func74 #[.slice A0 l0.length c0] ?_; (with_reducible refine (spec_TextOk.calls k _ _ l0 false _ ?side1 ?side2 A5.out).mono ?_); (case side1 => exact cpl (Kd.C_below HR0.out HB.out)); (case side2 => exact HC0.out); rintro e w37 ⟨rfl, hb⟩; refine ⟨_, rfl, ?_⟩; replace BK23001 := Aside0.mk (bkb BK23001 hb); replace HB := Aside0.mk (below_step hbs hb); (try clear hb); (try clear hb2); (try clear hk); (try clear hi)))
   go_meet
   case rel => exact ⟨_, (true), rfs, H', ⟨by first | omega | exact Nat.le_refl _⟩, ⟨by refine pB ?_; exact BK23001.out⟩, ⟨hbs⟩⟩
 case rest =>
  clear HC3
  try clear c1
  try clear c2
  try clear p2
  try clear c6
  try clear p6
  try clear c7
  try clear c8
  try clear c9
  try clear c9b0
  try clear c14
  try clear c14b0
  try clear c20
  try clear c22
  try clear hcz11_0
  try clear hcz11_1
  try clear hcz11_2
  try clear hcz13_0
  try clear hcz13_1
  try clear hcz13_2
  try clear hcz16_0
  try clear hcz16_1
  try clear hcz16_2
  try clear hcz18_0
  try clear hcz18_1
  try clear hcz18_2
  try clear hcz23_0
  try clear hcz23_1
  try clear hcz23_2
  try clear hcz25_0
  try clear hcz25_1
  try clear hcz25_2
  try clear hcz27_0
  try clear hcz27_1
  try clear hcz27_2
  try clear hcz30_0
  try clear hcz30_1
  try clear hcz30_2
  try clear hcz32_0
  try clear hcz32_1
  try clear hcz32_2
  try clear hcz35_0
  try clear hcz35_1
  try clear hcz35_2
  try clear hfz11_0
  try clear hfz11_1
  try clear hfz11_2
  try clear hfz13_0
  try clear hfz13_1
  try clear hfz13_2
  try clear hfz16_0
  try clear hfz16_1
  try clear hfz16_2
  try clear hfz18_0
  try clear hfz18_1
  try clear hfz18_2
  try clear hfz23_0
  try clear hfz23_1
  try clear hfz23_2
  try clear hfz25_0
  try clear hfz25_1
  try clear hfz25_2
  try clear hfz27_0
  try clear hfz27_1
  try clear hfz27_2
  try clear hfz30_0
  try clear hfz30_1
  try clear hfz30_2
  try clear hfz32_0
  try clear hfz32_1
  try clear hfz32_2
  try clear hfz35_0
  try clear hfz35_1
  try clear hfz35_2
  obtain ⟨kq, x45_2, rfl, HA, HJ2, BK23001, HB⟩ := hcut
  cases kq with
  | zero => exact absurd HA.out (by simp [spec_EditOk.j0])
  | succ kj2 =>
   have H := HA.out
   clear HA
   simp only [spec_EditOk.j0] at H
   by_cases c38 : x45_2 = true
   ·subst c38
    have H1 : (some false) = some r := by rw [if_pos rfl] at H; exact H
    clear H
    have H := H1
    clear H1
    obtain rfl := Option.some.inj H
    go_wp2
    go_ret
    exact ⟨erf, hbs⟩
   ·replace c38 := Bool.eq_false_iff.mpr c38
    subst c38
    have H1 : (some (decide ((wrap64 ((wrap64 ((l0.length : Int) - a1_1)) + (l1_2.length : Int))) ≤ 400))) = some r := by rw [if_neg (show ¬ (false = true) by decide)] at H; exact H
    clear H
    have H := H1
    clear H1
    obtain rfl := Option.some.inj H
    have hcz39_0 : wc.cell? ⟨gb23001, 0, none⟩ = some (.int .i64 a1_0) := (blk_cell BK23001.out 0).trans rfl
    have hcz39_1 : wc.cell? ⟨gb23001, 1, none⟩ = some (.int .i64 a1_1) := (blk_cell BK23001.out 1).trans rfl
    have hcz39_2 : wc.cell? ⟨gb23001, 2, none⟩ = some (.slice A1_2 l1_2.length c1_2) := (blk_cell BK23001.out 2).trans rfl
    have hfz39_0 := blk_frozen BK23001.out 0
    have hfz39_1 := blk_frozen BK23001.out 1
    have hfz39_2 := blk_frozen BK23001.out 2
    go_wp2
    go_ret
    exact ⟨erf, hbs⟩
def spec_EditDo.f (k : Nat) (l0 : List Int) (a1_0 : Int) (a1_1 : Int) (l1_2 : List Int) : Option (List Int × Bool) := (spec_EditOk.f k l0 a1_0 a1_1 l1_2).bind fun t19002 => (if t19002 = true then ((some (([] : List Int) : List Int)).bind fun y19003 => (if 0 ≤ a1_0 then (if a1_0 ≤ (l0.length : Int) then (if y19003.length + (l0.take (a1_0 : Int).toNat).length < 140737488355328 then ((some (y19003 ++ (l0.take (a1_0 : Int).toNat) : List Int)).bind fun y19007 => (if y19007.length + l1_2.length < 140737488355328 then ((some (y19007 ++ l1_2 : List Int)).bind fun y19010 => (if 0 ≤ (wrap64 (a1_0 + a1_1)) then (if (wrap64 (a1_0 + a1_1)) ≤ (l0.length : Int) then (if y19010.length + (l0.drop ((wrap64 (a1_0 + a1_1)) : Int).toNat).length < 140737488355328 then (some ((y19010 ++ (l0.drop ((wrap64 (a1_0 + a1_1)) : Int).toNat)), true)) else (none)) else (none)) else (none))) else (none))) else (none)) else (none)) else (none))) else (some (([] : List Int), false)))
theorem spec_EditDo.mono : ∀ a0 a1 a2 a3 k, LeO (spec_EditDo.f k a0 a1 a2 a3) (spec_EditDo.f (k + 1) a0 a1 a2 a3) := by
 intro a0 a1 a2 a3 k
 unfold spec_EditDo.f
 repeat' first
   | (with_reducible exact spec_EditOk.mono _ _ _ _ _)
   | (with_reducible exact LeO.refl _)
   | (with_reducible exact LeO.none _)
   | (with_reducible refine LeO.ite ?_ ?_)
   | (with_reducible refine LeO.bind ?_ (fun _ => ?_))
   | exact spec_EditOk.mono _ _ _ _ _
   | exact LeO.none _
   | refine LeO.ite ?_ ?_
   | refine LeO.bind ?_ (fun _ => ?_)
def spec_EditDo.T3 : Bool × List (List Nat × List Nat) := (true, [([], []), ([], []), ([], []), ([2], [2]), ([1, 3], [1, 3]), ([0, 4], [0, 4]), ([], []), ([6], [6]), ([5, 7, 5], [5, 7]), ([], []), ([], []), ([10], [10]), ([], []), ([12], [12]), ([11, 13], [11, 13]), ([9, 14], [9, 14]), ([8, 15, 8], [8, 15]), ([16, 16, 0, 1, 2, 3, 4, 5, 6, 7, 8, 9, 10, 11, 12, 13, 14, 15, 16], [16]), ([17, 0, 1, 2, 3, 4, 5, 6, 7, 8, 9, 10, 11, 12, 13, 14, 15, 16, 17], [])])
def spec_EditDo.B3 : List Nat := [0, 0, 0, 4, 14, 31, 0, 64, 255, 0, 0, 1024, 0, 4096, 15360, 32256, 65535, 131071, 262143]
theorem spec_EditDo.tab3 : rtab .any (opsOf Tryd.f18 3) = spec_EditDo.T3 := by kernel_rfl
theorem spec_EditDo.bits3 : waitsOk spec_EditDo.T3.2 spec_EditDo.B3 = true := by kernel_rfl
set_option maxHeartbeats 8000000 in
set_option maxRecDepth 100000 in
theorem spec_EditDo.calls (k : Nat) (A0 : Option Addr) (c0 : Nat) (l0 : List Int) (a1_0 : Int) (a1_1 : Int) (A1_2 : Option Addr) (c1_2 : Nat) (l1_2 : List Int) (r1 : List Int) (r2 : Bool) (w : World) (hr0 : Kd.C (Kd.int .u8) w A0 l0.length l0) (hc0 : l0.length ≤ c0) (hr1_2 : Kd.C (Kd.int .u8) w A1_2 l1_2.length l1_2) (hc1_2 : l1_2.length ≤ c1_2) (h : spec_EditDo.f k l0 a1_0 a1_1 l1_2 = some (r1, r2)) :
  Calls Tryd.prog 18 #[.slice A0 l0.length c0, .agg #[.int .i64 a1_0, .int .i64 a1_1, .slice A1_2 l1_2.length c1_2]] w fun e w' => ∃ v0_ : Value, e = .returned (.tuple #[v0_, .bool r2]) ∧ Kd.R (Kd.int .u8) 5 w' w.heap.size (fun _ => True) v0_ r1 ∧ Below w.heap.size w w' := by
 have hu25 := Tryd.underlying25
 have HR0 := Aside0.mk hr0
 have HC0 := Aside0.mk hc0
 clear hr0 hc0
 have HR1_2 := Aside0.mk hr1_2
 have HC1_2 := Aside0.mk hc1_2
 clear hr1_2 hc1_2
 have HB := Aside0.mk (Below.refl w.heap.size w)
 have H : ((spec_EditOk.f k l0 a1_0 a1_1 l1_2).bind fun t19002 => (if t19002 = true then ((some (([] : List Int) : List Int)).bind fun y19003 => (if 0 ≤ a1_0 then (if a1_0 ≤ (l0.length : Int) then (if y19003.length + (l0.take (a1_0 : Int).toNat).length < 140737488355328 then ((some (y19003 ++ (l0.take (a1_0 : Int).toNat) : List Int)).bind fun y19007 => (if y19007.length + l1_2.length < 140737488355328 then ((some (y19007 ++ l1_2 : List Int)).bind fun y19010 => (if 0 ≤ (wrap64 (a1_0 + a1_1)) then (if (wrap64 (a1_0 + a1_1)) ≤ (l0.length : Int) then (if y19010.length + (l0.drop ((wrap64 (a1_0 + a1_1)) : Int).toNat).length < 140737488355328 then (some ((y19010 ++ (l0.drop ((wrap64 (a1_0 + a1_1)) : Int).toNat)), true)) else (none)) else (none)) else (none))) else (none))) else (none)) else (none)) else (none))) else (some (([] : List Int), false)))) = some (r1, r2) := h
 clear h
 replace H := Option.bind_eq_some_iff.mp H
 obtain ⟨t19002, A30, H⟩ := H
 replace H : (if t19002 = true then ((some (([] : List Int) : List Int)).bind fun y19003 => (if 0 ≤ a1_0 then (if a1_0 ≤ (l0.length : Int) then (if y19003.length + (l0.take (a1_0 : Int).toNat).length < 140737488355328 then ((some (y19003 ++ (l0.take (a1_0 : Int).toNat) : List Int)).bind fun y19007 => (if y19007.length + l1_2.length < 140737488355328 then ((some (y19007 ++ l1_2 : List Int)).bind fun y19010 => (if 0 ≤ (wrap64 (a1_0 + a1_1)) then (if (wrap64 (a1_0 + a1_1)) ≤ (l0.length : Int) then (if y19010.length + (l0.drop ((wrap64 (a1_0 + a1_1)) : Int).toNat).length < 140737488355328 then (some ((y19010 ++ (l0.drop ((wrap64 (a1_0 + a1_1)) : Int).toNat)), true)) else (none)) else (none)) else (none))) else (none))) else (none)) else (none)) else (none))) else (some (([] : List Int), false))) = some (r1, r2) := H
 have A3 := Aside0.mk A30
 clear A30
 by_cases c4 : t19002 = true
 ·subst c4
  have H1 : ((some (([] : List Int) : List Int)).bind fun y19003 => (if 0 ≤ a1_0 then (if a1_0 ≤ (l0.length : Int) then (if y19003.length + (l0.take (a1_0 : Int).toNat).length < 140737488355328 then ((some (y19003 ++ (l0.take (a1_0 : Int).toNat) : List Int)).bind fun y19007 => (if y19007.length + l1_2.length < 140737488355328 then ((some (y19007 ++ l1_2 : List Int)).bind fun y19010 => (if 0 ≤ (wrap64 (a1_0 + a1_1)) then (if (wrap64 (a1_0 + a1_1)) ≤ (l0.length : Int) then (if y19010.length + (l0.drop ((wrap64 (a1_0 + a1_1)) : Int).toNat).length < 140737488355328 then (some ((y19010 ++ (l0.drop ((wrap64 (a1_0 + a1_1)) : Int).toNat)), true)) else (none)) else (none)) else (none))) else (none))) else (none)) else (none)) else (none))) = some (r1, r2) := by rw [if_pos rfl] at H; exact H
  clear H
  have H := H1
  clear H1
  obtain ⟨y19003, hy19003⟩ : ∃ y_ : List Int, y_ = (([] : List Int)) := ⟨_, rfl⟩
  replace H : (if 0 ≤ a1_0 then (if a1_0 ≤ (l0.length : Int) then (if y19003.length + (l0.take (a1_0 : Int).toNat).length < 140737488355328 then ((some (y19003 ++ (l0.take (a1_0 : Int).toNat) : List Int)).bind fun y19007 => (if y19007.length + l1_2.length < 140737488355328 then ((some (y19007 ++ l1_2 : List Int)).bind fun y19010 => (if 0 ≤ (wrap64 (a1_0 + a1_1)) then (if (wrap64 (a1_0 + a1_1)) ≤ (l0.length : Int) then (if y19010.length + (l0.drop ((wrap64 (a1_0 + a1_1)) : Int).toNat).length < 140737488355328 then (some ((y19010 ++ (l0.drop ((wrap64 (a1_0 + a1_1)) : Int).toNat)), true)) else (none)) else (none)) else (none))) else (none))) else (none)) else (none)) else (none)) = some (r1, r2) := repH hy19003 H
  have Ny19003 := Aside0.mk hy19003
  clear hy19003
  by_cases c5 : 0 ≤ a1_0
  ·rw [if_pos c5] at H
   have c5b0 := eq_true c5
   have c5b1 : decide (0 ≤ a1_0) = true := decide_eq_true c5
   clear c5
   by_cases c6 : a1_0 ≤ (l0.length : Int)
   ·rw [if_pos c6] at H
    have c6b0 := eq_true c6
    have c6b1 : decide (a1_0 ≤ (l0.length : Int)) = true := decide_eq_true c6
    clear c6
    by_cases c7 : y19003.length + (l0.take (a1_0 : Int).toNat).length < 140737488355328
    ·rw [if_pos c7] at H
     have LMc7 := Aside0.mk c7
     clear c7
     obtain ⟨y19007, hy19007⟩ : ∃ y_ : List Int, y_ = (y19003 ++ (l0.take (a1_0 : Int).toNat)) := ⟨_, rfl⟩
     replace H : (if y19007.length + l1_2.length < 140737488355328 then ((some (y19007 ++ l1_2 : List Int)).bind fun y19010 => (if 0 ≤ (wrap64 (a1_0 + a1_1)) then (if (wrap64 (a1_0 + a1_1)) ≤ (l0.length : Int) then (if y19010.length + (l0.drop ((wrap64 (a1_0 + a1_1)) : Int).toNat).length < 140737488355328 then (some ((y19010 ++ (l0.drop ((wrap64 (a1_0 + a1_1)) : Int).toNat)), true)) else (none)) else (none)) else (none))) else (none)) = some (r1, r2) := repH hy19007 H
     have Ny19007 := Aside0.mk hy19007
     clear hy19007
     by_cases c8 : y19007.length + l1_2.length < 140737488355328
     ·rw [if_pos c8] at H
      have LMc8 := Aside0.mk c8
      clear c8
      obtain ⟨y19010, hy19010⟩ : ∃ y_ : List Int, y_ = (y19007 ++ l1_2) := ⟨_, rfl⟩
      replace H : (if 0 ≤ (wrap64 (a1_0 + a1_1)) then (if (wrap64 (a1_0 + a1_1)) ≤ (l0.length : Int) then (if y19010.length + (l0.drop ((wrap64 (a1_0 + a1_1)) : Int).toNat).length < 140737488355328 then (some ((y19010 ++ (l0.drop ((wrap64 (a1_0 + a1_1)) : Int).toNat)), true)) else (none)) else (none)) else (none)) = some (r1, r2) := repH hy19010 H
      have Ny19010 := Aside0.mk hy19010
      clear hy19010
      obtain ⟨ji9, hji9⟩ : ∃ j_ : Int, (wrap64 (a1_0 + a1_1)) = j_ := ⟨_, rfl⟩
      replace H : (if 0 ≤ (ji9) then (if (ji9) ≤ (l0.length : Int) then (if y19010.length + (l0.drop ((ji9) : Int).toNat).length < 140737488355328 then (some ((y19010 ++ (l0.drop ((ji9) : Int).toNat)), true)) else (none)) else (none)) else (none)) = some (r1, r2) := by first | (rw [hji9] at H; exact H) | (simp only [hji9] at H ⊢; exact H)
      (try rw [hji9] at A3)
      have hji9w : (IntKind.i64.wrap (a1_0 + a1_1)) = ji9 := (i64_w _).trans hji9
      by_cases c10 : 0 ≤ (ji9)
      ·rw [if_pos c10] at H
       have c10b0 := eq_true c10
       have c10b1 : decide (0 ≤ (ji9)) = true := decide_eq_true c10
       clear c10
       by_cases c11 : (ji9) ≤ (l0.length : Int)
       ·rw [if_pos c11] at H
        have c11b0 := eq_true c11
        have c11b1 : decide ((ji9) ≤ (l0.length : Int)) = true := decide_eq_true c11
        clear c11
        by_cases c12 : y19010.length + (l0.drop ((ji9) : Int).toNat).length < 140737488355328
        ·rw [if_pos c12] at H
         have LMc12 := Aside0.mk c12
         clear c12
         obtain ⟨y19014, hy19014⟩ : ∃ y_ : List Int, y_ = (y19010 ++ (l0.drop ((ji9) : Int).toNat)) := ⟨_, rfl⟩
         replace H : (some (y19014, true)) = some (r1, r2) := repH hy19014 H
         have Ny19014 := Aside0.mk hy19014
         clear hy19014
         simp only [Option.some.injEq, Prod.mk.injEq] at H
         obtain ⟨rfl, rfl⟩ := H
         go_enter Tryd.func18, Tryd.ntmps18
         try go_wp2_with (first | ((with_reducible refine gate_dst (N := 3) rfl ?_); refine boxE 3 #[.int .i64 a1_0, .int .i64 a1_1, .slice A1_2 l1_2.length c1_2] 25 ?_; intro gb19001 hg w13 BK19001 hb; have GW19001 := Aside0.mk (gsz hg hbw : w.heap.size ≤ gb19001); have GE19001 := GW19001; replace HB := Aside0.mk (below_step hbw hb); clear hb hg; have hcz14_0 : w13.cell? ⟨gb19001, 0, none⟩ = some (.int .i64 a1_0) := (blk_cell BK19001.out 0).trans rfl; have hcz14_1 : w13.cell? ⟨gb19001, 1, none⟩ = some (.int .i64 a1_1) := (blk_cell BK19001.out 1).trans rfl; have hcz14_2 : w13.cell? ⟨gb19001, 2, none⟩ = some (.slice A1_2 l1_2.length c1_2) := (blk_cell BK19001.out 2).trans rfl; have hfz14_0 := blk_frozen BK19001.out 0; have hfz14_1 := blk_frozen BK19001.out 1; have hfz14_2 := blk_frozen BK19001.out 2) | ((with_reducible refine gate_callee (f := 22) rfl ?_); refine goesM (some 8) Tryd.func22 #[.slice A0 l0.length c0, .agg #[.int .i64 a1_0, .int .i64 a1_1, .slice A1_2 l1_2.length c1_2]] ?_; (with_reducible refine (spec_EditOk.calls k _ _ l0 a1_0 a1_1 _ _ l1_2 true _ ?side1 ?side2 ?side3 ?side4 A3.out).mono ?_); (case side1 => exact cpl (Kd.C_below HR0.out HB.out)); (case side2 => exact HC0.out); (case side3 => exact cpl (Kd.C_below HR1_2.out HB.out)); (case side4 => exact HC1_2.out); rintro e w15 ⟨rfl, hb⟩; refine ⟨_, rfl, ?_⟩; replace BK19001 := Aside0.mk (bkb BK19001 hb); replace HB := Aside0.mk (below_step hbs hb); (try clear hb); (try clear hb2); (try clear hk); (try clear hi)))
         replace BK19001 := Aside0.mk (blk_drew BK19001.out)
         replace HB := Aside0.mk (below_drew1 HB.out)
         obtain ⟨i017, hi017, _, hsz17, _⟩ := info_parts info5
         obtain ⟨hcut17, hA17, hC17⟩ := print_take_of (P := Tryd.prog) (Value.int .u8) 0 22 5 .i64 Tryd.underlying22 hi017 hsz17 A0 c0 l0 a1_0 (odt) (odt) HC0.out
         have HR19006 := Aside0.mk (Kd.C_of_reads (h1 := fun _ => rfl) (hA17 _ (Kd.reads_of_C HR0.out)))
         have HC19006 := Aside0.mk hC17
         clear hA17 hC17 hi017 hsz17
         obtain ⟨i018, hi018, _, hsz18, _⟩ := info_parts info5
         obtain ⟨A18, hcut18, hA18, hC18⟩ := print_drop_of (P := Tryd.prog) (Value.int .u8) 0 22 5 .i64 Tryd.underlying22 hi018 hsz18 A0 c0 l0 (ji9) (odt) (odt) HC0.out
         have HR19013 := Aside0.mk (Kd.C_of_reads (h1 := fun _ => rfl) (hA18 _ (Kd.reads_of_C HR0.out)))
         have HC19013 := Aside0.mk hC18
         clear hA18 hC18 hi018 hsz18
         refine start_ (n := 19) (S := fun w' => w'.cell? ⟨gb19001, 0, none⟩ = some (.int .i64 a1_0) ∧ w'.cell? ⟨gb19001, 1, none⟩ = some (.int .i64 a1_1) ∧ w'.cell? ⟨gb19001, 2, none⟩ = some (.slice A1_2 l1_2.length c1_2)) (ds := []) #[false, false, false, false, false, false, false, false, false, false, false, false, false, false, false, false, false, false, false] (by kernel_rfl) rfl rfl ⟨(blk_cell BK19001.out 0).trans rfl, (blk_cell BK19001.out 1).trans rfl, (blk_cell BK19001.out 2).trans rfl⟩ (fun hHeld => ?_); refine with_tabW spec_EditDo.tab3 spec_EditDo.bits3 (fun HT_ HW_ => ?_)
         generalize w15.drew = w16 at BK19001 HB HR19006 HR19013 hHeld ⊢
         refine pureM 1 (some 11) (bz 19 0x2) (any_of HT_.out (by kernel_rfl)) ?_
         refine pureM 2 (some 12) (bz 19 0x6) (any_of HT_.out (by kernel_rfl)) ?_
         refine pureM 6 (some 16) (bz 19 0x46) (any_of HT_.out (by kernel_rfl)) ?_
         refine pureM 9 (some 19) (bz 19 0x246) (any_of HT_.out (by kernel_rfl)) ?_
         refine pureM 10 (some 20) (bz 19 0x646) (any_of HT_.out (by kernel_rfl)) ?_
         refine pureM 12 (some 22) (bz 19 0x1646) (any_of HT_.out (by kernel_rfl)) ?_
         refine takeM 3 (some 13) (bz 19 0x164e) (take_ofW HT_.out HW_.out (by kernel_rfl)) hHeld ?_
         refine pureM 4 (some 14) (bz 19 0x165e) (any_of HT_.out (by kernel_rfl)) ?_
         refine takeM 7 (some 17) (bz 19 0x16de) (take_ofW HT_.out HW_.out (by kernel_rfl)) hHeld ?_
         refine takeM 11 (some 21) (bz 19 0x1ede) (take_ofW HT_.out HW_.out (by kernel_rfl)) hHeld ?_
         refine takeM 13 (some 23) (bz 19 0x3ede) (take_ofW HT_.out HW_.out (by kernel_rfl)) hHeld ?_
         refine pureM 14 (some 24) (bz 19 0x7ede) (any_of HT_.out (by kernel_rfl)) ?_
         refine pureM 15 (some 25) (bz 19 0xfede) (any_of HT_.out (by kernel_rfl)) ?_
         refine one_ (i := 0) (N := some 10) (bz 19 0xfedf) rfl rfl (one_of HT_.out (by kernel_rfl)) (by decide) (fun K hK => ?_)
         refine Kd.R_lit_step (Kd.int .u8) _ 5 ?hg (N := 10) ?hd (xs := ([] : List Int)) (inner := []) (ok := fun _ => True) (okp := fun _ => True) ?hr ?hp (fun _ hk => hk) trivial (Below.refl _ _) (Nat.le_refl _) (by simp) ?_; (case hd => rfl); (case hg => rfl); (case hr => first | (go_simp; done) | (go_simp; rfl)); (case hp => exact (Reps.none _ _))
         intro v19004 w19 ho20 hb hg_ hnew_
         clear hg_ hnew_
         (first | rw [← Ny19003.out] at ho20 | (simp only [Int.reduceToNat] at ho20; rw [← Ny19003.out] at ho20))
         have HO19005 := Aside0.mk (Kd.R_lower ho20 (below_size hbs))
         replace BK19001 := Aside0.mk (bkb BK19001 hb)
         replace HB := Aside0.mk (below_step hbs hb)
         clear hb ho20
         refine hK.out _ _ ⟨(blk_cell BK19001.out 0).trans rfl, (blk_cell BK19001.out 1).trans rfl, (blk_cell BK19001.out 2).trans rfl⟩ (fun hHeld => ?_)
         clear hK K
         refine norm_ (a' := ?_) ?_ ?_
         rotate_left
         ·show Act.put _ (some 10) _ = _
          simp only [Act.put, List.setIfInBounds_toArray, List.set_cons_zero, List.set_cons_succ, i64_w, i32_w]
          rfl
         refine one_ (i := 5) (N := some 15) (bz 19 0xfeff) rfl rfl (one_of HT_.out (by kernel_rfl)) (by decide) (fun K hK => ?_)
         refine Kd.R_append_rows_step (Kd.int .u8) (w0 := w) w.heap.size (by rfl) (.tmp 10) (.tmp 14) 22 5 (.int .u8 0) 1 rfl Tryd.underlying22 info5 rfl (by decide) (by omega) v19004 y19003 (l0.take (a1_0 : Int).toNat) _ _ _ (fun _ => True) (fun _ => False) rfl rfl ?aO ?aR (fun _ _ h => h) (fun _ h => h.elim) ?aF ?aB ?aS ?aL ?_
         (case aR => first | (refine Eq.mp (congrArg (fun n_ => ReadsRow _ _ _ _ n_ _) (show (l0.take (a1_0 : Int).toNat).length = a1_0.toNat from (by rw [List.length_take]; have h_ : (a1_0 : Int) ≤ (l0.length : Int) := odt; omega))) ?_; repeat (first | exact (Kd.C_below HR19006.out HB.out) | (with_reducible refine Kd.C_alloc ?_ _) | (with_reducible refine Kd.C_drewN ?_ _) | (with_reducible refine Kd.C_drew ?_))) | (repeat (first | exact (Kd.C_below HR19006.out HB.out) | (with_reducible refine Kd.C_alloc ?_ _) | (with_reducible refine Kd.C_drewN ?_ _) | (with_reducible refine Kd.C_drew ?_))))
         (case aB => exact hbs)
         (case aF => exact (fun _ _ => trivial))
         (case aO => exact (hrnR HO19005))
         (case aS => exact (below_size hbs))
         (case aL => have := LMc7.out; have hlx_ := (show (l0.take (a1_0 : Int).toNat).length = a1_0.toNat from (by rw [List.length_take]; have h_ : (a1_0 : Int) ≤ (l0.length : Int) := odt; omega)); omega)
         intro v19008 w21 ho hb hg hat
         rw [← Ny19007.out] at ho
         have HO19009 := Aside0.mk (ho)
         replace BK19001 := Aside0.mk (blk_grown (g := gb19001) (o := .cells #[.int .i64 a1_0, .int .i64 a1_1, .slice A1_2 l1_2.length c1_2] 25 (0, 0)) (by refine pB ?_; exact BK19001.out) hg (Kd.R_ne HO19005.out BK19001.out (by decide)))
         replace HB := Aside0.mk (hb)
         clear HO19005
         clear ho hb hg hat
         refine hK.out _ _ ⟨(blk_cell BK19001.out 0).trans rfl, (blk_cell BK19001.out 1).trans rfl, (blk_cell BK19001.out 2).trans rfl⟩ (fun hHeld => ?_)
         clear hK K
         refine norm_ (a' := ?_) ?_ ?_
         rotate_left
         ·show Act.put _ (some 15) _ = _
          simp only [Act.put, List.setIfInBounds_toArray, List.set_cons_zero, List.set_cons_succ, i64_w, i32_w]
          rfl
         refine one_ (i := 8) (N := some 18) (bz 19 0xffff) rfl rfl (one_of HT_.out (by kernel_rfl)) (by decide) (fun K hK => ?_)
         refine Kd.R_append_rows_step (Kd.int .u8) (w0 := w) w.heap.size (by rfl) (.tmp 15) (.tmp 17) 22 5 (.int .u8 0) 1 rfl Tryd.underlying22 info5 rfl (by decide) (by omega) v19008 y19007 l1_2 _ _ _ (fun _ => True) (fun _ => False) rfl rfl ?aO ?aR (fun _ _ h => h) (fun _ h => h.elim) ?aF ?aB ?aS ?aL ?_
         (case aR => repeat (first | exact (Kd.C_below HR1_2.out HB.out) | (with_reducible refine Kd.C_alloc ?_ _) | (with_reducible refine Kd.C_drewN ?_ _) | (with_reducible refine Kd.C_drew ?_)))
         (case aB => exact hbs)
         (case aF => exact (fun _ _ => trivial))
         (case aO => exact (hrnR HO19009))
         (case aS => exact (below_size hbs))
         (case aL => have := LMc8.out; omega)
         intro v19011 w22 ho hb hg hat
         rw [← Ny19010.out] at ho
         have HO19012 := Aside0.mk (ho)
         replace BK19001 := Aside0.mk (blk_grown (g := gb19001) (o := .cells #[.int .i64 a1_0, .int .i64 a1_1, .slice A1_2 l1_2.length c1_2] 25 (0, 0)) (by refine pB ?_; exact BK19001.out) hg (Kd.R_ne HO19009.out BK19001.out (by decide)))
         replace HB := Aside0.mk (hb)
         clear HO19009
         clear ho hb hg hat
         refine hK.out _ _ ⟨(blk_cell BK19001.out 0).trans rfl, (blk_cell BK19001.out 1).trans rfl, (blk_cell BK19001.out 2).trans rfl⟩ (fun hHeld => ?_)
         clear hK K
         refine norm_ (a' := ?_) ?_ ?_
         rotate_left
         ·show Act.put _ (some 18) _ = _
          simp only [Act.put, List.setIfInBounds_toArray, List.set_cons_zero, List.set_cons_succ, i64_w, i32_w]
          rfl
         refine one_ (i := 16) (N := some 26) (bz 19 0x1ffff) rfl rfl (one_of HT_.out (by kernel_rfl)) (by decide) (fun K hK => ?_)
         refine Kd.R_append_rows_step (Kd.int .u8) (w0 := w) w.heap.size (by rfl) (.tmp 18) (.tmp 25) 22 5 (.int .u8 0) 1 rfl Tryd.underlying22 info5 rfl (by decide) (by omega) v19011 y19010 (l0.drop ((ji9) : Int).toNat) _ _ _ (fun _ => True) (fun _ => False) rfl rfl ?aO ?aR (fun _ _ h => h) (fun _ h => h.elim) ?aF ?aB ?aS ?aL ?_
         (case aR => first | (refine Eq.mp (congrArg (fun n_ => ReadsRow _ _ _ _ n_ _) (show (l0.drop ((ji9) : Int).toNat).length = (l0.length - (ji9).toNat) from List.length_drop)) ?_; repeat (first | exact (Kd.C_below HR19013.out HB.out) | (with_reducible refine Kd.C_alloc ?_ _) | (with_reducible refine Kd.C_drewN ?_ _) | (with_reducible refine Kd.C_drew ?_))) | (repeat (first | exact (Kd.C_below HR19013.out HB.out) | (with_reducible refine Kd.C_alloc ?_ _) | (with_reducible refine Kd.C_drewN ?_ _) | (with_reducible refine Kd.C_drew ?_))))
         (case aB => exact hbs)
         (case aF => exact (fun _ _ => trivial))
         (case aO => exact (hrnR HO19012))
         (case aS => exact (below_size hbs))
         (case aL => have := LMc12.out; have hlx_ := (show (l0.drop ((ji9) : Int).toNat).length = (l0.length - (ji9).toNat) from List.length_drop); omega)
         intro v19015 w23 ho hb hg hat
         rw [← Ny19014.out] at ho
         have HO19016 := Aside0.mk (ho)
         replace BK19001 := Aside0.mk (blk_grown (g := gb19001) (o := .cells #[.int .i64 a1_0, .int .i64 a1_1, .slice A1_2 l1_2.length c1_2] 25 (0, 0)) (by refine pB ?_; exact BK19001.out) hg (Kd.R_ne HO19012.out BK19001.out (by decide)))
         replace HB := Aside0.mk (hb)
         clear HO19012
         clear ho hb hg hat
         refine hK.out _ _ ⟨(blk_cell BK19001.out 0).trans rfl, (blk_cell BK19001.out 1).trans rfl, (blk_cell BK19001.out 2).trans rfl⟩ (fun hHeld => ?_)
         clear hK K
         refine norm_ (a' := ?_) ?_ ?_
         rotate_left
         ·show Act.put _ (some 26) _ = _
          simp only [Act.put, List.setIfInBounds_toArray, List.set_cons_zero, List.set_cons_succ, i64_w, i32_w]
          rfl
         refine pureM 17 (some 4) (bz 19 0x3ffff) (any_of HT_.out (by kernel_rfl)) ?_
         refine pureM 18 (some 5) (bz 19 0x7ffff) (any_of HT_.out (by kernel_rfl)) ?_
         refine done_ (done_of HT_.out (by kernel_rfl)) ?_
         try go_wp2
         go_ret2
         exact ⟨_, by first | rfl | (simp [errW_none, errW_some] <;> rfl) | (simp only [← hji9]; first | rfl | (simp [errW_none, errW_some] <;> rfl)) | (simp [*, errW_none, errW_some] <;> rfl), (hrnR HO19016), hbs⟩
        ·rw [if_neg c12] at H
         exact absurd H (by simp)
       ·rw [if_neg c11] at H
        exact absurd H (by simp)
      ·rw [if_neg c10] at H
       exact absurd H (by simp)
     ·rw [if_neg c8] at H
      exact absurd H (by simp)
    ·rw [if_neg c7] at H
     exact absurd H (by simp)
   ·rw [if_neg c6] at H
    exact absurd H (by simp)
  ·rw [if_neg c5] at H
   exact absurd H (by simp)
 ·replace c4 := Bool.eq_false_iff.mpr c4
  subst c4
  have H1 : (some (([] : List Int), false)) = some (r1, r2) := by rw [if_neg (show ¬ (false = true) by decide)] at H; exact H
  clear H
  have H := H1
  clear H1
  simp only [Option.some.injEq, Prod.mk.injEq] at H
  obtain ⟨rfl, rfl⟩ := H
  go_enter Tryd.func18, Tryd.ntmps18
  go_wp2_with (first | ((with_reducible refine gate_dst (N := 3) rfl ?_); refine boxE 3 #[.int .i64 a1_0, .int .i64 a1_1, .slice A1_2 l1_2.length c1_2] 25 ?_; intro gb19001 hg w24 BK19001 hb; have GW19001 := Aside0.mk (gsz hg hbw : w.heap.size ≤ gb19001); have GE19001 := GW19001; replace HB := Aside0.mk (below_step hbw hb); clear hb hg; have hcz25_0 : w24.cell? ⟨gb19001, 0, none⟩ = some (.int .i64 a1_0) := (blk_cell BK19001.out 0).trans rfl; have hcz25_1 : w24.cell? ⟨gb19001, 1, none⟩ = some (.int .i64 a1_1) := (blk_cell BK19001.out 1).trans rfl; have hcz25_2 : w24.cell? ⟨gb19001, 2, none⟩ = some (.slice A1_2 l1_2.length c1_2) := (blk_cell BK19001.out 2).trans rfl; have hfz25_0 := blk_frozen BK19001.out 0; have hfz25_1 := blk_frozen BK19001.out 1; have hfz25_2 := blk_frozen BK19001.out 2) | ((with_reducible refine gate_callee (f := 22) rfl ?_); refine goesM (some 8) Tryd.func22 #[.slice A0 l0.length c0, .agg #[.int .i64 a1_0, .int .i64 a1_1, .slice A1_2 l1_2.length c1_2]] ?_; (with_reducible refine (spec_EditOk.calls k _ _ l0 a1_0 a1_1 _ _ l1_2 false _ ?side1 ?side2 ?side3 ?side4 A3.out).mono ?_); (case side1 => exact cpl (Kd.C_below HR0.out HB.out)); (case side2 => exact HC0.out); (case side3 => exact cpl (Kd.C_below HR1_2.out HB.out)); (case side4 => exact HC1_2.out); rintro e w26 ⟨rfl, hb⟩; refine ⟨_, rfl, ?_⟩; replace BK19001 := Aside0.mk (bkb BK19001 hb); replace HB := Aside0.mk (below_step hbs hb); (try clear hb); (try clear hb2); (try clear hk); (try clear hi)))
  go_ret2
  exact ⟨_, erf, by first | exact Kd.R_nil _ _ _ _ _ | exact Kd.N_nil _ _ _ _ _ | exact Kd.V_nil _ _ _ _ _ | exact Kd.Q_nil _ _ _ _ _ | exact Kd.S_nil _ _ _ _ _, hbs⟩
def spec_l01Cur_raw.f (s0_0 : List Int) (s0_1 : Int) (s0_2 : Int) : Option (Int × Int × Int) := (spec_l01Cur_pick.f s0_0 s0_1 s0_2 8).bind fun bt66001 => (if bt66001.1 = 0 then ((spec_l01Cur_pick.f s0_0 bt66001.2.1 bt66001.2.2 256).bind fun bt66004 => (some (wrap64 (bt66004.1 - 128), bt66004.2.1, bt66004.2.2))) else (if bt66001.1 = 1 then ((some (([9223372036854775807, (-9223372036854775808), 4611686018427387904, 55296, 57343, 65536, 1114111, 1114112] : List Int) : List Int)).bind fun y66007 => ((spec_l01Cur_pick.f s0_0 bt66001.2.1 bt66001.2.2 8).bind fun bt66010 => (if 0 ≤ bt66010.1 then (if bt66010.1 < (y66007.length : Int) then (some (rd y66007 bt66010.1, bt66010.2.1, bt66010.2.2)) else (none)) else (none)))) else ((spec_l01Cur_pick.f s0_0 bt66001.2.1 bt66001.2.2 14).bind fun bt66014 => (some (wrap64 (bt66014.1 - 3), bt66014.2.1, bt66014.2.2)))))
set_option maxHeartbeats 8000000 in
set_option maxRecDepth 100000 in
theorem spec_l01Cur_raw.calls (g : Nat) (s0_0 : List Int) (s0_1 : Int) (s0_2 : Int) (r1 : Int) (r2 : Int) (r3 : Int) (w0 w : World) (hI : IsS141 w0 w g s0_0 s0_1 s0_2) (hB : Below w0.heap.size w0 w) (h : spec_l01Cur_raw.f s0_0 s0_1 s0_2 = some (r1, r2, r3)) :
  Calls Tryd.prog 65 #[.pointer (some ⟨g, 0, none⟩)] w fun e w' => e = .returned (.int .i64 r1) ∧ IsS141 w0 w' g s0_0 r2 r3 ∧ Below w0.heap.size w0 w' ∧ KeepBut w w' g none := by
 have HI0 := Aside0.mk hI
 have HK := Aside0.mk (KeepBut.refl w g none)
 have HL := Aside0.mk hB.size
 clear hI
 have HW0 := Aside0.mk hB.size
 have HB := Aside0.mk hB
 clear hB
 have H : ((spec_l01Cur_pick.f s0_0 s0_1 s0_2 8).bind fun bt66001 => (if bt66001.1 = 0 then ((spec_l01Cur_pick.f s0_0 bt66001.2.1 bt66001.2.2 256).bind fun bt66004 => (some (wrap64 (bt66004.1 - 128), bt66004.2.1, bt66004.2.2))) else (if bt66001.1 = 1 then ((some (([9223372036854775807, (-9223372036854775808), 4611686018427387904, 55296, 57343, 65536, 1114111, 1114112] : List Int) : List Int)).bind fun y66007 => ((spec_l01Cur_pick.f s0_0 bt66001.2.1 bt66001.2.2 8).bind fun bt66010 => (if 0 ≤ bt66010.1 then (if bt66010.1 < (y66007.length : Int) then (some (rd y66007 bt66010.1, bt66010.2.1, bt66010.2.2)) else (none)) else (none)))) else ((spec_l01Cur_pick.f s0_0 bt66001.2.1 bt66001.2.2 14).bind fun bt66014 => (some (wrap64 (bt66014.1 - 3), bt66014.2.1, bt66014.2.2)))))) = some (r1, r2, r3) := h
 clear h
 replace H := Option.bind_eq_some_iff.mp H
 obtain ⟨⟨t66001, t66002, t66003⟩, A20, H⟩ := H
 replace H : (if t66001 = 0 then ((spec_l01Cur_pick.f s0_0 t66002 t66003 256).bind fun bt66004 => (some (wrap64 (bt66004.1 - 128), bt66004.2.1, bt66004.2.2))) else (if t66001 = 1 then ((some (([9223372036854775807, (-9223372036854775808), 4611686018427387904, 55296, 57343, 65536, 1114111, 1114112] : List Int) : List Int)).bind fun y66007 => ((spec_l01Cur_pick.f s0_0 t66002 t66003 8).bind fun bt66010 => (if 0 ≤ bt66010.1 then (if bt66010.1 < (y66007.length : Int) then (some (rd y66007 bt66010.1, bt66010.2.1, bt66010.2.2)) else (none)) else (none)))) else ((spec_l01Cur_pick.f s0_0 t66002 t66003 14).bind fun bt66014 => (some (wrap64 (bt66014.1 - 3), bt66014.2.1, bt66014.2.2))))) = some (r1, r2, r3) := H
 have A2 := Aside0.mk A20
 clear A20
 by_cases c3 : t66001 = 0
 ·rw [if_pos c3] at H
  have c3b0 : (t66001 == 0) = true := beq_iff_eq.mpr c3
  have c3b1 : (t66001 != 0) = false := bne_eq_false_iff_eq.mpr c3
  clear c3
  replace H := Option.bind_eq_some_iff.mp H
  obtain ⟨⟨t66004, t66005, t66006⟩, A40, H⟩ := H
  replace H : (some (wrap64 (t66004 - 128), t66005, t66006)) = some (r1, r2, r3) := H
  have A4 := Aside0.mk A40
  clear A40
  simp only [Option.some.injEq, Prod.mk.injEq] at H
  obtain ⟨rfl, rfl, rfl⟩ := H
  go_enter Tryd.func65, Tryd.ntmps65
  go_wp2_with (first | ((with_reducible refine gate_callee (f := 64) rfl ?_); refine goesM (some 4) Tryd.func64 #[.pointer (some ⟨g, 0, none⟩), .int .i64 8] ?_; (with_reducible refine (spec_l01Cur_pick.calls g s0_0 s0_1 s0_2 8 t66001 t66002 t66003 w0 _ ?side1 ?side2 A2.out).mono ?_); (case side1 => exact pIIsS141 HI0); (case side2 => exact hbIsS141); rintro e w5 ⟨rfl, hi, hb, hk⟩; refine ⟨_, rfl, ?_⟩; replace HK := Aside0.mk (KeepBut.trans hkk hk (.inl rfl)); replace HB := Aside0.mk (hb); replace HI0 := Aside0.mk (hi); (try clear hb); (try clear hb2); (try clear hk); (try clear hi)) | ((with_reducible refine gate_callee (f := 64) rfl ?_); refine goesM (some 8) Tryd.func64 #[.pointer (some ⟨g, 0, none⟩), .int .i64 256] ?_; (with_reducible refine (spec_l01Cur_pick.calls g s0_0 t66002 t66003 256 t66004 t66005 t66006 w0 _ ?side1 ?side2 A4.out).mono ?_); (case side1 => exact pIIsS141 HI0); (case side2 => exact hbIsS141); rintro e w6 ⟨rfl, hi, hb, hk⟩; refine ⟨_, rfl, ?_⟩; replace HK := Aside0.mk (KeepBut.trans hkk hk (.inl rfl)); replace HB := Aside0.mk (hb); replace HI0 := Aside0.mk (hi); (try clear hb); (try clear hb2); (try clear hk); (try clear hi)))
  go_ret
  exact ⟨erf, pIIsS141 HI0, hbIsS141, hkk⟩
 ·rw [if_neg c3] at H
  have c3b0 : (t66001 == 0) = false := beq_eq_false_iff_ne.mpr c3
  have c3b1 : (t66001 != 0) = true := bne_iff_ne.mpr c3
  by_cases c7 : t66001 = 1
  ·rw [if_pos c7] at H
   have c7b0 : (t66001 == 1) = true := beq_iff_eq.mpr c7
   have c7b1 : (t66001 != 1) = false := bne_eq_false_iff_eq.mpr c7
   clear c7
   obtain ⟨y66007, hy66007⟩ : ∃ y_ : List Int, y_ = (([9223372036854775807, (-9223372036854775808), 4611686018427387904, 55296, 57343, 65536, 1114111, 1114112] : List Int)) := ⟨_, rfl⟩
   replace H : ((spec_l01Cur_pick.f s0_0 t66002 t66003 8).bind fun bt66010 => (if 0 ≤ bt66010.1 then (if bt66010.1 < (y66007.length : Int) then (some (rd y66007 bt66010.1, bt66010.2.1, bt66010.2.2)) else (none)) else (none))) = some (r1, r2, r3) := repH hy66007 H
   have Ny66007 := Aside0.mk hy66007
   clear hy66007
   replace H := Option.bind_eq_some_iff.mp H
   obtain ⟨⟨t66010, t66011, t66012⟩, A80, H⟩ := H
   replace H : (if 0 ≤ t66010 then (if t66010 < (y66007.length : Int) then (some (rd y66007 t66010, t66011, t66012)) else (none)) else (none)) = some (r1, r2, r3) := H
   have A8 := Aside0.mk A80
   clear A80
   by_cases c9 : 0 ≤ t66010
   ·rw [if_pos c9] at H
    have c9b0 : decide (0 ≤ t66010) = true := decide_eq_true c9
    clear c9
    by_cases c10 : t66010 < (y66007.length : Int)
    ·rw [if_pos c10] at H
     have c10b0 : decide (t66010 < (y66007.length : Int)) = true := decide_eq_true c10
     clear c10
     simp only [Option.some.injEq, Prod.mk.injEq] at H
     obtain ⟨rfl, rfl, rfl⟩ := H
     go_enter Tryd.func65, Tryd.ntmps65
     go_wp2_with (first | ((with_reducible refine gate_callee (f := 64) rfl ?_); refine goesM (some 4) Tryd.func64 #[.pointer (some ⟨g, 0, none⟩), .int .i64 8] ?_; (with_reducible refine (spec_l01Cur_pick.calls g s0_0 s0_1 s0_2 8 t66001 t66002 t66003 w0 _ ?side1 ?side2 A2.out).mono ?_); (case side1 => exact pIIsS141 HI0); (case side2 => exact hbIsS141); rintro e w11 ⟨rfl, hi, hb, hk⟩; refine ⟨_, rfl, ?_⟩; replace HK := Aside0.mk (KeepBut.trans hkk hk (.inl rfl)); replace HB := Aside0.mk (hb); replace HI0 := Aside0.mk (hi); (try clear hb); (try clear hb2); (try clear hk); (try clear hi)) | ((with_reducible refine gate_dst (N := 12) rfl ?_); refine Kd.R_lit (Kd.int .i64) _ 3 ?hg (N := 12) ?hd (xs := ([9223372036854775807, (-9223372036854775808), 4611686018427387904, 55296, 57343, 65536, 1114111, 1114112] : List Int)) (inner := [.int .i64 9223372036854775807, .int .i64 (-9223372036854775808), .int .i64 4611686018427387904, .int .i64 55296, .int .i64 57343, .int .i64 65536, .int .i64 1114111, .int .i64 1114112]) (ok := fun _ => True) (okp := fun _ => True) ?hr ?hp (fun _ hk => hk) trivial (Below.refl _ _) (Nat.le_refl _) (by simp) ?_; (case hd => rfl); (case hg => rfl); (case hr => first | (go_simp; done) | (go_simp; rfl)); (case hp => exact (Reps.one (show Kd.M (Kd.int .i64) _ _ _ 9223372036854775807 [.int .i64 9223372036854775807] from rfl) (Reps.one (show Kd.M (Kd.int .i64) _ _ _ (-9223372036854775808) [.int .i64 (-9223372036854775808)] from rfl) (Reps.one (show Kd.M (Kd.int .i64) _ _ _ 4611686018427387904 [.int .i64 4611686018427387904] from rfl) (Reps.one (show Kd.M (Kd.int .i64) _ _ _ 55296 [.int .i64 55296] from rfl) (Reps.one (show Kd.M (Kd.int .i64) _ _ _ 57343 [.int .i64 57343] from rfl) (Reps.one (show Kd.M (Kd.int .i64) _ _ _ 65536 [.int .i64 65536] from rfl) (Reps.one (show Kd.M (Kd.int .i64) _ _ _ 1114111 [.int .i64 1114111] from rfl) (Reps.one (show Kd.M (Kd.int .i64) _ _ _ 1114112 [.int .i64 1114112] from rfl) (Reps.none _ _)))))))))); intro v66008 w12 ho13 hb hg_ hnew_; clear hg_ hnew_; (first | rw [← Ny66007.out] at ho13 | (simp only [Int.reduceToNat] at ho13; rw [← Ny66007.out] at ho13)); have HO66009 := Aside0.mk (Kd.R_lower ho13 (keep_size (w := w) (g := g) (row := none) hkk)); replace HK := Aside0.mk (KeepBut.trans hkk (KeepBut.of_below hb g none) (.inl rfl)); replace HB := Aside0.mk (below_step hbIsS141 hb); replace HI0 := Aside0.mk (IsS141.below (pIIsS141 HI0) hb); clear hb ho13) | ((with_reducible refine gate_callee (f := 64) rfl ?_); refine goesM (some 14) Tryd.func64 #[.pointer (some ⟨g, 0, none⟩), .int .i64 8] ?_; (with_reducible refine (spec_l01Cur_pick.calls g s0_0 t66002 t66003 8 t66010 t66011 t66012 w0 _ ?side1 ?side2 A8.out).mono ?_); (case side1 => exact pIIsS141 HI0); (case side2 => exact hbIsS141); rintro e w14 ⟨rfl, hi, hb, hk⟩; refine ⟨_, rfl, ?_⟩; replace HO66009 := Aside0.mk (Kd.R_mono (Kd.R_keep (IsS141.apart (show IsS141 w0 _ g s0_0 t66002 t66003 from pIIsS141 HI0) (hrnR HO66009) (by decide)) hk (fun _ h => h.2)) (fun _ h => h.1)); replace HK := Aside0.mk (KeepBut.trans hkk hk (.inl rfl)); replace HB := Aside0.mk (hb); replace HI0 := Aside0.mk (hi); (try clear hb); (try clear hb2); (try clear hk); (try clear hi); obtain ⟨Ao15, co15, eo15⟩ := Kd.R_slice HO66009.out; subst eo15; have p66013 : 0 ≤ (t66010 : Int) := odt; have q66013 : t66010 < (y66007.length : Int) := odt; obtain ⟨ad66013, e66013, hx66013_0⟩ := Kd.at_int (Kd.R_reads' HO66009.out).2.2 t66010 p66013 q66013; cases e66013; replace p66013 := eq_true p66013; replace q66013 := eq_true q66013))
     go_ret
     exact ⟨erf, pIIsS141 HI0, hbIsS141, hkk⟩
    ·rw [if_neg c10] at H
     exact absurd H (by simp)
   ·rw [if_neg c9] at H
    exact absurd H (by simp)
  ·rw [if_neg c7] at H
   have c7b0 : (t66001 == 1) = false := beq_eq_false_iff_ne.mpr c7
   have c7b1 : (t66001 != 1) = true := bne_iff_ne.mpr c7
   replace H := Option.bind_eq_some_iff.mp H
   obtain ⟨⟨t66014, t66015, t66016⟩, A160, H⟩ := H
   replace H : (some (wrap64 (t66014 - 3), t66015, t66016)) = some (r1, r2, r3) := H
   have A16 := Aside0.mk A160
   clear A160
   simp only [Option.some.injEq, Prod.mk.injEq] at H
   obtain ⟨rfl, rfl, rfl⟩ := H
   go_enter Tryd.func65, Tryd.ntmps65
   go_wp2_with (first | ((with_reducible refine gate_callee (f := 64) rfl ?_); refine goesM (some 4) Tryd.func64 #[.pointer (some ⟨g, 0, none⟩), .int .i64 8] ?_; (with_reducible refine (spec_l01Cur_pick.calls g s0_0 s0_1 s0_2 8 t66001 t66002 t66003 w0 _ ?side1 ?side2 A2.out).mono ?_); (case side1 => exact pIIsS141 HI0); (case side2 => exact hbIsS141); rintro e w17 ⟨rfl, hi, hb, hk⟩; refine ⟨_, rfl, ?_⟩; replace HK := Aside0.mk (KeepBut.trans hkk hk (.inl rfl)); replace HB := Aside0.mk (hb); replace HI0 := Aside0.mk (hi); (try clear hb); (try clear hb2); (try clear hk); (try clear hi)) | ((with_reducible refine gate_callee (f := 64) rfl ?_); refine goesM (some 18) Tryd.func64 #[.pointer (some ⟨g, 0, none⟩), .int .i64 14] ?_; (with_reducible refine (spec_l01Cur_pick.calls g s0_0 t66002 t66003 14 t66014 t66015 t66016 w0 _ ?side1 ?side2 A16.out).mono ?_); (case side1 => exact pIIsS141 HI0); (case side2 => exact hbIsS141); rintro e w18 ⟨rfl, hi, hb, hk⟩; refine ⟨_, rfl, ?_⟩; replace HK := Aside0.mk (KeepBut.trans hkk hk (.inl rfl)); replace HB := Aside0.mk (hb); replace HI0 := Aside0.mk (hi); (try clear hb); (try clear hb2); (try clear hk); (try clear hi)))
   go_ret
   exact ⟨erf, pIIsS141 HI0, hbIsS141, hkk⟩
def spec_l01Cur_place.f (s0_0 : List Int) (s0_1 : Int) (s0_2 : Int) (a1 : Int) : Option (Int × Int × Int) := (spec_l01Cur_pick.f s0_0 s0_1 s0_2 (mx 1 (wrap64 (a1 + 1)))).bind fun bt145001 => ((spec_l01Cur_pick.f s0_0 bt145001.2.1 bt145001.2.2 (mx 1 (wrap64 (a1 + 1)))).bind fun bt145004 => ((spec_l01Cur_raw.f s0_0 bt145004.2.1 bt145004.2.2).bind fun bt145007 => ((some (([bt145001.1, bt145004.1, a1, wrap64 (a1 + 1), bt145007.1] : List Int) : List Int)).bind fun y145010 => ((spec_l01Cur_pick.f s0_0 bt145007.2.1 bt145007.2.2 5).bind fun bt145013 => (if 0 ≤ bt145013.1 then (if bt145013.1 < (y145010.length : Int) then (some (rd y145010 bt145013.1, bt145013.2.1, bt145013.2.2)) else (none)) else (none))))))
set_option maxHeartbeats 8000000 in
set_option maxRecDepth 100000 in
theorem spec_l01Cur_place.calls (g : Nat) (s0_0 : List Int) (s0_1 : Int) (s0_2 : Int) (a1 : Int) (r1 : Int) (r2 : Int) (r3 : Int) (w0 w : World) (hI : IsS141 w0 w g s0_0 s0_1 s0_2) (hB : Below w0.heap.size w0 w) (h : spec_l01Cur_place.f s0_0 s0_1 s0_2 a1 = some (r1, r2, r3)) :
  Calls Tryd.prog 144 #[.pointer (some ⟨g, 0, none⟩), .int .i64 a1] w fun e w' => e = .returned (.int .i64 r1) ∧ IsS141 w0 w' g s0_0 r2 r3 ∧ Below w0.heap.size w0 w' ∧ KeepBut w w' g none := by
 have HI0 := Aside0.mk hI
 have HK := Aside0.mk (KeepBut.refl w g none)
 have HL := Aside0.mk hB.size
 clear hI
 have HW0 := Aside0.mk hB.size
 have HB := Aside0.mk hB
 clear hB
 have H : ((spec_l01Cur_pick.f s0_0 s0_1 s0_2 (mx 1 (wrap64 (a1 + 1)))).bind fun bt145001 => ((spec_l01Cur_pick.f s0_0 bt145001.2.1 bt145001.2.2 (mx 1 (wrap64 (a1 + 1)))).bind fun bt145004 => ((spec_l01Cur_raw.f s0_0 bt145004.2.1 bt145004.2.2).bind fun bt145007 => ((some (([bt145001.1, bt145004.1, a1, wrap64 (a1 + 1), bt145007.1] : List Int) : List Int)).bind fun y145010 => ((spec_l01Cur_pick.f s0_0 bt145007.2.1 bt145007.2.2 5).bind fun bt145013 => (if 0 ≤ bt145013.1 then (if bt145013.1 < (y145010.length : Int) then (some (rd y145010 bt145013.1, bt145013.2.1, bt145013.2.2)) else (none)) else (none))))))) = some (r1, r2, r3) := h
 clear h
 obtain ⟨ji3, hji3⟩ : ∃ j_ : Int, (mx 1 (wrap64 (a1 + 1))) = j_ := ⟨_, rfl⟩
 replace H : ((spec_l01Cur_pick.f s0_0 s0_1 s0_2 (ji3)).bind fun bt145001 => ((spec_l01Cur_pick.f s0_0 bt145001.2.1 bt145001.2.2 (ji3)).bind fun bt145004 => ((spec_l01Cur_raw.f s0_0 bt145004.2.1 bt145004.2.2).bind fun bt145007 => ((some (([bt145001.1, bt145004.1, a1, wrap64 (a1 + 1), bt145007.1] : List Int) : List Int)).bind fun y145010 => ((spec_l01Cur_pick.f s0_0 bt145007.2.1 bt145007.2.2 5).bind fun bt145013 => (if 0 ≤ bt145013.1 then (if bt145013.1 < (y145010.length : Int) then (some (rd y145010 bt145013.1, bt145013.2.1, bt145013.2.2)) else (none)) else (none))))))) = some (r1, r2, r3) := by first | (rw [hji3] at H; exact H) | (simp only [hji3] at H ⊢; exact H)
 (try (have hji3l : 1 ≤ ji3 := by (rw [← hji3]; unfold mx; (repeat' split) <;> omega)))
 (try (have hji3m : 0 ≤ ji3 := by omega))
 have hji3_ : (if 1 < (wrap64 (a1 + 1)) then (wrap64 (a1 + 1)) else 1) = ji3 := hji3
 replace H := Option.bind_eq_some_iff.mp H
 obtain ⟨⟨t145001, t145002, t145003⟩, A40, H⟩ := H
 replace H : ((spec_l01Cur_pick.f s0_0 t145002 t145003 (ji3)).bind fun bt145004 => ((spec_l01Cur_raw.f s0_0 bt145004.2.1 bt145004.2.2).bind fun bt145007 => ((some (([t145001, bt145004.1, a1, wrap64 (a1 + 1), bt145007.1] : List Int) : List Int)).bind fun y145010 => ((spec_l01Cur_pick.f s0_0 bt145007.2.1 bt145007.2.2 5).bind fun bt145013 => (if 0 ≤ bt145013.1 then (if bt145013.1 < (y145010.length : Int) then (some (rd y145010 bt145013.1, bt145013.2.1, bt145013.2.2)) else (none)) else (none)))))) = some (r1, r2, r3) := H
 have A4 := Aside0.mk A40
 clear A40
 replace H := Option.bind_eq_some_iff.mp H
 obtain ⟨⟨t145004, t145005, t145006⟩, A50, H⟩ := H
 replace H : ((spec_l01Cur_raw.f s0_0 t145005 t145006).bind fun bt145007 => ((some (([t145001, t145004, a1, wrap64 (a1 + 1), bt145007.1] : List Int) : List Int)).bind fun y145010 => ((spec_l01Cur_pick.f s0_0 bt145007.2.1 bt145007.2.2 5).bind fun bt145013 => (if 0 ≤ bt145013.1 then (if bt145013.1 < (y145010.length : Int) then (some (rd y145010 bt145013.1, bt145013.2.1, bt145013.2.2)) else (none)) else (none))))) = some (r1, r2, r3) := H
 have A5 := Aside0.mk A50
 clear A50
 replace H := Option.bind_eq_some_iff.mp H
 obtain ⟨⟨t145007, t145008, t145009⟩, A60, H⟩ := H
 replace H : ((some (([t145001, t145004, a1, wrap64 (a1 + 1), t145007] : List Int) : List Int)).bind fun y145010 => ((spec_l01Cur_pick.f s0_0 t145008 t145009 5).bind fun bt145013 => (if 0 ≤ bt145013.1 then (if bt145013.1 < (y145010.length : Int) then (some (rd y145010 bt145013.1, bt145013.2.1, bt145013.2.2)) else (none)) else (none)))) = some (r1, r2, r3) := H
 have A6 := Aside0.mk A60
 clear A60
 obtain ⟨y145010, hy145010⟩ : ∃ y_ : List Int, y_ = (([t145001, t145004, a1, wrap64 (a1 + 1), t145007] : List Int)) := ⟨_, rfl⟩
 replace H : ((spec_l01Cur_pick.f s0_0 t145008 t145009 5).bind fun bt145013 => (if 0 ≤ bt145013.1 then (if bt145013.1 < (y145010.length : Int) then (some (rd y145010 bt145013.1, bt145013.2.1, bt145013.2.2)) else (none)) else (none))) = some (r1, r2, r3) := repH hy145010 H
 have Ny145010 := Aside0.mk hy145010
 clear hy145010
 replace H := Option.bind_eq_some_iff.mp H
 obtain ⟨⟨t145013, t145014, t145015⟩, A70, H⟩ := H
 replace H : (if 0 ≤ t145013 then (if t145013 < (y145010.length : Int) then (some (rd y145010 t145013, t145014, t145015)) else (none)) else (none)) = some (r1, r2, r3) := H
 have A7 := Aside0.mk A70
 clear A70
 by_cases c8 : 0 ≤ t145013
 ·rw [if_pos c8] at H
  have c8b0 : decide (0 ≤ t145013) = true := decide_eq_true c8
  clear c8
  by_cases c9 : t145013 < (y145010.length : Int)
  ·rw [if_pos c9] at H
   have c9b0 : decide (t145013 < (y145010.length : Int)) = true := decide_eq_true c9
   clear c9
   simp only [Option.some.injEq, Prod.mk.injEq] at H
   obtain ⟨rfl, rfl, rfl⟩ := H
   go_enter Tryd.func144, Tryd.ntmps144
   go_wp2_with (first | ((with_reducible refine gate_callee (f := 64) rfl ?_); refine goesL_ (some 9) rfl rfl Tryd.func64 (by kernel_rfl) rfl #[.pointer (some ⟨g, 0, none⟩), .int .i64 ji3] rfl (by (try simp only [List.map_toArray, List.map_cons, List.map_nil]); first | done | (simp only [hji3]; rfl) | rfl | (simp only [List.length_drop, List.length_take]; rfl)) ?_; (with_reducible refine (spec_l01Cur_pick.calls g s0_0 s0_1 s0_2 ji3 t145001 t145002 t145003 w0 _ ?side1 ?side2 A4.out).mono ?_); (case side1 => exact pIIsS141 HI0); (case side2 => exact hbIsS141); rintro e w10 ⟨rfl, hi, hb, hk⟩; refine ⟨_, rfl, ?_⟩; replace HK := Aside0.mk (KeepBut.trans hkk hk (.inl rfl)); replace HB := Aside0.mk (hb); replace HI0 := Aside0.mk (hi); (try clear hb); (try clear hb2); (try clear hk); (try clear hi)) | ((with_reducible refine gate_callee (f := 64) rfl ?_); refine goesL_ (some 14) rfl rfl Tryd.func64 (by kernel_rfl) rfl #[.pointer (some ⟨g, 0, none⟩), .int .i64 ji3] rfl (by (try simp only [List.map_toArray, List.map_cons, List.map_nil]); first | done | (simp only [hji3]; rfl) | rfl | (simp only [List.length_drop, List.length_take]; rfl)) ?_; (with_reducible refine (spec_l01Cur_pick.calls g s0_0 t145002 t145003 ji3 t145004 t145005 t145006 w0 _ ?side1 ?side2 A5.out).mono ?_); (case side1 => exact pIIsS141 HI0); (case side2 => exact hbIsS141); rintro e w11 ⟨rfl, hi, hb, hk⟩; refine ⟨_, rfl, ?_⟩; replace HK := Aside0.mk (KeepBut.trans hkk hk (.inl rfl)); replace HB := Aside0.mk (hb); replace HI0 := Aside0.mk (hi); (try clear hb); (try clear hb2); (try clear hk); (try clear hi)) | ((with_reducible refine gate_callee (f := 65) rfl ?_); refine goesM (some 19) Tryd.func65 #[.pointer (some ⟨g, 0, none⟩)] ?_; (with_reducible refine (spec_l01Cur_raw.calls g s0_0 t145005 t145006 t145007 t145008 t145009 w0 _ ?side1 ?side2 A6.out).mono ?_); (case side1 => exact pIIsS141 HI0); (case side2 => exact hbIsS141); rintro e w12 ⟨rfl, hi, hb, hk⟩; refine ⟨_, rfl, ?_⟩; replace HK := Aside0.mk (KeepBut.trans hkk hk (.inl rfl)); replace HB := Aside0.mk (hb); replace HI0 := Aside0.mk (hi); (try clear hb); (try clear hb2); (try clear hk); (try clear hi)) | ((with_reducible refine gate_dst (N := 20) rfl ?_); refine Kd.R_lit (Kd.int .i64) _ 3 ?hg (N := 20) ?hd (xs := ([t145001, t145004, a1, wrap64 (a1 + 1), t145007] : List Int)) (inner := [.int .i64 t145001, .int .i64 t145004, .int .i64 a1, .int .i64 (wrap64 (a1 + 1)), .int .i64 t145007]) (ok := fun _ => True) (okp := fun _ => True) ?hr ?hp (fun _ hk => hk) trivial (Below.refl _ _) (Nat.le_refl _) (by simp) ?_; (case hd => rfl); (case hg => rfl); (case hr => first | (go_simp; done) | (go_simp; rfl)); (case hp => exact (Reps.one (show Kd.M (Kd.int .i64) _ _ _ t145001 [.int .i64 t145001] from rfl) (Reps.one (show Kd.M (Kd.int .i64) _ _ _ t145004 [.int .i64 t145004] from rfl) (Reps.one (show Kd.M (Kd.int .i64) _ _ _ a1 [.int .i64 a1] from rfl) (Reps.one (show Kd.M (Kd.int .i64) _ _ _ (wrap64 (a1 + 1)) [.int .i64 (wrap64 (a1 + 1))] from rfl) (Reps.one (show Kd.M (Kd.int .i64) _ _ _ t145007 [.int .i64 t145007] from rfl) (Reps.none _ _))))))); intro v145011 w13 ho14 hb hg_ hnew_; clear hg_ hnew_; (first | rw [← Ny145010.out] at ho14 | (simp only [Int.reduceToNat] at ho14; rw [← Ny145010.out] at ho14)); have HO145012 := Aside0.mk (Kd.R_lower ho14 (keep_size (w := w) (g := g) (row := none) hkk)); replace HK := Aside0.mk (KeepBut.trans hkk (KeepBut.of_below hb g none) (.inl rfl)); replace HB := Aside0.mk (below_step hbIsS141 hb); replace HI0 := Aside0.mk (IsS141.below (pIIsS141 HI0) hb); clear hb ho14) | ((with_reducible refine gate_callee (f := 64) rfl ?_); refine goesM (some 22) Tryd.func64 #[.pointer (some ⟨g, 0, none⟩), .int .i64 5] ?_; (with_reducible refine (spec_l01Cur_pick.calls g s0_0 t145008 t145009 5 t145013 t145014 t145015 w0 _ ?side1 ?side2 A7.out).mono ?_); (case side1 => exact pIIsS141 HI0); (case side2 => exact hbIsS141); rintro e w15 ⟨rfl, hi, hb, hk⟩; refine ⟨_, rfl, ?_⟩; replace HO145012 := Aside0.mk (Kd.R_mono (Kd.R_keep (IsS141.apart (show IsS141 w0 _ g s0_0 t145008 t145009 from pIIsS141 HI0) (hrnR HO145012) (by decide)) hk (fun _ h => h.2)) (fun _ h => h.1)); replace HK := Aside0.mk (KeepBut.trans hkk hk (.inl rfl)); replace HB := Aside0.mk (hb); replace HI0 := Aside0.mk (hi); (try clear hb); (try clear hb2); (try clear hk); (try clear hi); obtain ⟨Ao16, co16, eo16⟩ := Kd.R_slice HO145012.out; subst eo16; have p145016 : 0 ≤ (t145013 : Int) := odt; have q145016 : t145013 < (y145010.length : Int) := odt; obtain ⟨ad145016, e145016, hx145016_0⟩ := Kd.at_int (Kd.R_reads' HO145012.out).2.2 t145013 p145016 q145016; cases e145016; replace p145016 := eq_true p145016; replace q145016 := eq_true q145016))
   go_ret
   exact ⟨by first | rfl | (simp [errW_none, errW_some] <;> rfl) | (simp only [← hji3]; first | rfl | (simp [errW_none, errW_some] <;> rfl)) | (simp [*, errW_none, errW_some] <;> rfl), pIIsS141 HI0, hbIsS141, hkk⟩
  ·rw [if_neg c9] at H
   exact absurd H (by simp)
 ·rw [if_neg c8] at H
  exact absurd H (by simp)
def spec_ChunkOk.f (k : Nat) (l0_0 : List Int) : Option (Bool) := if (l0_0.length : Int) ≥ 1 then (if (l0_0.length : Int) ≤ 16 then ((spec_TextOk.f k l0_0).bind fun t148002 => (some t148002)) else (some false)) else (some false)
theorem spec_ChunkOk.mono : ∀ a0 k, LeO (spec_ChunkOk.f k a0) (spec_ChunkOk.f (k + 1) a0) := by
 intro a0 k
 unfold spec_ChunkOk.f
 repeat' first
   | (with_reducible exact spec_TextOk.mono _ _)
   | (with_reducible exact LeO.refl _)
   | (with_reducible exact LeO.none _)
   | (with_reducible refine LeO.ite ?_ ?_)
   | (with_reducible refine LeO.bind ?_ (fun _ => ?_))
   | exact spec_TextOk.mono _ _
   | exact LeO.none _
   | refine LeO.ite ?_ ?_
   | refine LeO.bind ?_ (fun _ => ?_)
set_option maxHeartbeats 8000000 in
set_option maxRecDepth 100000 in
theorem spec_ChunkOk.calls (k : Nat) (A0_0 : Option Addr) (c0_0 : Nat) (l0_0 : List Int) (r : Bool) (w : World) (hr0_0 : Kd.C (Kd.int .u8) w A0_0 l0_0.length l0_0) (hc0_0 : l0_0.length ≤ c0_0) (h : spec_ChunkOk.f k l0_0 = some r) :
  Calls Tryd.prog 147 #[.agg #[.slice A0_0 l0_0.length c0_0]] w fun e w' => e = .returned (.bool r) ∧ Below w.heap.size w w' := by
 have hu125 := Tryd.underlying125
 have HR0_0 := Aside0.mk hr0_0
 have HC0_0 := Aside0.mk hc0_0
 clear hr0_0 hc0_0
 have HB := Aside0.mk (Below.refl w.heap.size w)
 have H : (if (l0_0.length : Int) ≥ 1 then (if (l0_0.length : Int) ≤ 16 then ((spec_TextOk.f k l0_0).bind fun t148002 => (some t148002)) else (some false)) else (some false)) = some r := h
 clear h
 by_cases c2 : (l0_0.length : Int) ≥ 1
 ·rw [if_pos c2] at H
  have c2b0 : decide (1 ≤ (l0_0.length : Int)) = true := decide_eq_true c2
  have c2b1 : decide (1 ≤ l0_0.length) = true := decide_eq_true (by omega)
  clear c2
  by_cases c3 : (l0_0.length : Int) ≤ 16
  ·rw [if_pos c3] at H
   have c3b0 : decide ((l0_0.length : Int) ≤ 16) = true := decide_eq_true c3
   have c3b1 : decide (l0_0.length ≤ 16) = true := decide_eq_true (by omega)
   clear c3
   replace H := Option.bind_eq_some_iff.mp H
   obtain ⟨t148002, A40, H⟩ := H
   replace H : (some t148002) = some r := H
   have A4 := Aside0.mk A40
   clear A40
   obtain rfl := Option.some.inj H
   go_enter Tryd.func147, Tryd.ntmps147
   go_wp2_with (first | ((with_reducible refine gate_dst (N := 1) rfl ?_); (try (refine gate_guard (by rfl) ?_; dsimp only)); refine boxE 1 #[.slice A0_0 l0_0.length c0_0] 125 ?_; intro gb148001 hg w5 BK148001 hb; have GW148001 := Aside0.mk (gsz hg hbw : w.heap.size ≤ gb148001); have GE148001 := GW148001; replace HB := Aside0.mk (below_step hbw hb); clear hb hg; have hcz6_0 : w5.cell? ⟨gb148001, 0, none⟩ = some (.slice A0_0 l0_0.length c0_0) := (blk_cell BK148001.out 0).trans rfl; have hfz6_0 := blk_frozen BK148001.out 0) | (go_at_call 74; (with_reducible refine (spec_TextOk.calls k _ _ l0_0 t148002 _ ?side1 ?side2 A4.out).mono ?_); (case side1 => exact cpl (Kd.C_below HR0_0.out HB.out)); (case side2 => exact HC0_0.out); rintro e w7 ⟨rfl, hb⟩; replace BK148001 := Aside0.mk (bkb BK148001 hb); replace HB := Aside0.mk (below_step hbs hb); (try clear hb); (try clear hb2); (try clear hk); (try clear hi)))
   go_ret
   exact ⟨erf, hbs⟩
  ·rw [if_neg c3] at H
   have c3b0 : decide ((l0_0.length : Int) ≤ 16) = false := decide_eq_false c3
   have c3b1 : decide (l0_0.length ≤ 16) = false := decide_eq_false (by omega)
   clear c3
   obtain rfl := Option.some.inj H
   go_enter Tryd.func147, Tryd.ntmps147
   go_wp2_with (first | ((with_reducible refine gate_dst (N := 1) rfl ?_); (try (refine gate_guard (by rfl) ?_; dsimp only)); refine boxE 1 #[.slice A0_0 l0_0.length c0_0] 125 ?_; intro gb148001 hg w8 BK148001 hb; have GW148001 := Aside0.mk (gsz hg hbw : w.heap.size ≤ gb148001); have GE148001 := GW148001; replace HB := Aside0.mk (below_step hbw hb); clear hb hg; have hcz9_0 : w8.cell? ⟨gb148001, 0, none⟩ = some (.slice A0_0 l0_0.length c0_0) := (blk_cell BK148001.out 0).trans rfl; have hfz9_0 := blk_frozen BK148001.out 0))
   go_ret
   exact ⟨erf, hbs⟩
 ·rw [if_neg c2] at H
  have c2b0 : decide (1 ≤ (l0_0.length : Int)) = false := decide_eq_false c2
  have c2b1 : decide (1 ≤ l0_0.length) = false := decide_eq_false (by omega)
  clear c2
  obtain rfl := Option.some.inj H
  go_enter Tryd.func147, Tryd.ntmps147
  go_wp2_with (first | ((with_reducible refine gate_dst (N := 1) rfl ?_); (try (refine gate_guard (by rfl) ?_; dsimp only)); refine boxE 1 #[.slice A0_0 l0_0.length c0_0] 125 ?_; intro gb148001 hg w10 BK148001 hb; have GW148001 := Aside0.mk (gsz hg hbw : w.heap.size ≤ gb148001); have GE148001 := GW148001; replace HB := Aside0.mk (below_step hbw hb); clear hb hg; have hcz11_0 : w10.cell? ⟨gb148001, 0, none⟩ = some (.slice A0_0 l0_0.length c0_0) := (blk_cell BK148001.out 0).trans rfl; have hfz11_0 := blk_frozen BK148001.out 0))
  go_ret
  exact ⟨erf, hbs⟩
def spec_ChunksOk.l0 : Nat → List (S125) → Int → Int → Option (Bool)
 | 0, _, _, _ => none
 | k + 1, x0, x3, x4 => if x4 < (x0.length : Int) then (if 0 ≤ x4 then ((spec_ChunkOk.f k ((rd_T125 x0 x4).f0)).bind fun t117002 => (if t117002 = true then (if (wrap64 (x3 + (((rd_T125 x0 x4).f0).length : Int))) > 400 then (some false) else (spec_ChunksOk.l0 k x0 (wrap64 (x3 + (((rd_T125 x0 x4).f0).length : Int))) (wrap64 (x4 + 1)))) else (some false))) else (none)) else (some true)
def spec_ChunksOk.f (k : Nat) (l0 : List (S125)) : Option (Bool) := spec_ChunksOk.l0 k l0 0 0
theorem spec_ChunksOk.mono_l : ∀ k, (∀ y0 y1 y2, LeO (spec_ChunksOk.l0 k y0 y1 y2) (spec_ChunksOk.l0 (k + 1) y0 y1 y2))
 | 0 => fun _ _ _ r h => by simp [spec_ChunksOk.l0] at h
 | k + 1 => by
  have ih0 := spec_ChunksOk.mono_l k
  ·intro y0 y1 y2
   unfold spec_ChunksOk.l0
   repeat' first
   | (with_reducible exact ih0 _ _ _)
   | (with_reducible exact spec_ChunkOk.mono _ _)
   | (with_reducible exact LeO.refl _)
   | (with_reducible exact LeO.none _)
   | (with_reducible refine LeO.ite ?_ ?_)
   | (with_reducible refine LeO.bind ?_ (fun _ => ?_))
   | exact ih0 _ _ _
   | exact spec_ChunkOk.mono _ _
   | exact LeO.none _
   | refine LeO.ite ?_ ?_
   | refine LeO.bind ?_ (fun _ => ?_)
theorem spec_ChunksOk.mono : ∀ a0 k, LeO (spec_ChunksOk.f k a0) (spec_ChunksOk.f (k + 1) a0) := by
 intro a0 k
 have ih0 := spec_ChunksOk.mono_l k
 unfold spec_ChunksOk.f
 repeat' first
   | (with_reducible exact ih0 _ _ _)
   | (with_reducible exact spec_ChunkOk.mono _ _)
   | (with_reducible exact LeO.refl _)
   | (with_reducible exact LeO.none _)
   | (with_reducible refine LeO.ite ?_ ?_)
   | (with_reducible refine LeO.bind ?_ (fun _ => ?_))
   | exact ih0 _ _ _
   | exact spec_ChunkOk.mono _ _
   | exact LeO.none _
   | refine LeO.ite ?_ ?_
   | refine LeO.bind ?_ (fun _ => ?_)
set_option maxHeartbeats 8000000 in
set_option maxRecDepth 100000 in
theorem spec_ChunksOk.calls (k : Nat) (A0 : Option Addr) (c0 : Nat) (l0 : List (S125)) (r : Bool) (w : World) (hr0 : Kd.C k125 w A0 l0.length l0) (hc0 : l0.length ≤ c0) (h : spec_ChunksOk.f k l0 = some r) :
  Calls Tryd.prog 116 #[.slice A0 l0.length c0] w fun e w' => e = .returned (.bool r) ∧ Below w.heap.size w w' := by
 have hu125 := Tryd.underlying125
 have HR0 := Aside0.mk hr0
 have HC0 := Aside0.mk hc0
 clear hr0 hc0
 have HB := Aside0.mk (Below.refl w.heap.size w)
 have H : (spec_ChunksOk.l0 k l0 0 0) = some r := h
 clear h
 have H' := Aside0.mk H
 clear H
 go_enter Tryd.func116, Tryd.ntmps116
 go_wp2
 go_loopg [3, 4] k (fun kq v3 v4 w' => ∃ (x3_1 : Int) (x4_1 : Int), v3 = .int .i64 x3_1 ∧ v4 = .int .i64 x4_1 ∧ Aside0 (spec_ChunksOk.l0 kq l0 x3_1 x4_1 = some r) ∧ Aside0 (kq ≤ k) ∧ Aside0 (Below w.heap.size w w'))
 case atStart => exact ⟨(0), (0), rfs, rfs, H', ⟨Nat.le_refl _⟩, ⟨hbw⟩⟩
 case round =>
  clear H'
  try clear c1
  obtain ⟨x3_1, x4_1, rfl, rfl, HA, HK1, HB⟩ := hrel
  cases gk with
  | zero => exact absurd HA.out (by simp [spec_ChunksOk.l0])
  | succ k1 =>
   have H := HA.out
   clear HA
   simp only [spec_ChunksOk.l0] at H
   by_cases c2 : x4_1 < (l0.length : Int)
   ·rw [if_pos c2] at H
    have c2b0 : decide (x4_1 < (l0.length : Int)) = true := decide_eq_true c2
    clear c2
    by_cases c3 : 0 ≤ x4_1
    ·rw [if_pos c3] at H
     have c3b0 : decide (0 ≤ x4_1) = true := decide_eq_true c3
     clear c3
     replace H := Option.bind_eq_some_iff.mp H
     obtain ⟨t117002, A40, H⟩ := H
     replace H : (if t117002 = true then (if (wrap64 (x3_1 + (((rd_T125 l0 x4_1).f0).length : Int))) > 400 then (some false) else (spec_ChunksOk.l0 k1 l0 (wrap64 (x3_1 + (((rd_T125 l0 x4_1).f0).length : Int))) (wrap64 (x4_1 + 1)))) else (some false)) = some r := H
     have A4 := Aside0.mk A40
     clear A40
     by_cases c5 : t117002 = true
     ·subst c5
      have H1 : (if (wrap64 (x3_1 + (((rd_T125 l0 x4_1).f0).length : Int))) > 400 then (some false) else (spec_ChunksOk.l0 k1 l0 (wrap64 (x3_1 + (((rd_T125 l0 x4_1).f0).length : Int))) (wrap64 (x4_1 + 1)))) = some r := by rw [if_pos rfl] at H; exact H
      clear H
      have H := H1
      clear H1
      by_cases c6 : (wrap64 (x3_1 + (((rd_T125 l0 x4_1).f0).length : Int))) > 400
      ·rw [if_pos c6] at H
       have c6b0 : decide (400 < (wrap64 (x3_1 + (((rd_T125 l0 x4_1).f0).length : Int)))) = true := decide_eq_true c6
       clear c6
       obtain rfl := Option.some.inj H
       have p117001 : 0 ≤ (x4_1 : Int) := odt
       have q117001 : x4_1 < (l0.length : Int) := odt
       obtain ⟨ad117001, A117001_0, c117001_0, e117001, hx117001_0, hl117001_0, hi117001_0⟩ := at_T125 HR0.out x4_1 p117001 q117001
       cases e117001
       replace hx117001_0 := (HB.out.cell (World.block_lt_of_cell? w _ hx117001_0)).trans hx117001_0
       have HR117001_0 := Aside0.mk hi117001_0
       have HC117001_0 := Aside0.mk hl117001_0
       clear hi117001_0 hl117001_0
       replace p117001 := eq_true p117001
       replace q117001 := eq_true q117001
       go_wp2_with (first | ((with_reducible refine gate_callee (f := 147) rfl ?_); refine goesM (some 15) Tryd.func147 #[.agg #[.slice A117001_0 ((rd_T125 l0 x4_1).f0).length c117001_0]] ?_; (with_reducible refine (spec_ChunkOk.calls k1 _ _ ((rd_T125 l0 x4_1).f0) true _ ?side1 ?side2 A4.out).mono ?_); (case side1 => exact cpl (Kd.C_below HR117001_0.out HB.out)); (case side2 => exact HC117001_0.out); rintro e w7 ⟨rfl, hb⟩; refine ⟨_, rfl, ?_⟩; replace HB := Aside0.mk (below_step hbw hb); (try clear hb); (try clear hb2); (try clear hk); (try clear hi); have p117003 : 0 ≤ (x4_1 : Int) := odt; have q117003 : x4_1 < (l0.length : Int) := odt; obtain ⟨ad117003, A117003_0, c117003_0, e117003, hx117003_0, hl117003_0, hi117003_0⟩ := at_T125 HR0.out x4_1 p117003 q117003; obtain rfl : ad117001 = ad117003 := (by injection e117003); replace hx117003_0 := (HB.out.cell (World.block_lt_of_cell? w _ hx117003_0)).trans hx117003_0; have HR117003_0 := Aside0.mk hi117003_0; have HC117003_0 := Aside0.mk hl117003_0; clear hi117003_0 hl117003_0; replace p117003 := eq_true p117003; replace q117003 := eq_true q117003))
       go_ret
       exact ⟨erf, hbw⟩
      ·rw [if_neg c6] at H
       have c6b0 : decide (400 < (wrap64 (x3_1 + (((rd_T125 l0 x4_1).f0).length : Int)))) = false := decide_eq_false c6
       clear c6
       have H' := Aside0.mk H
       clear H
       have p117001 : 0 ≤ (x4_1 : Int) := odt
       have q117001 : x4_1 < (l0.length : Int) := odt
       obtain ⟨ad117001, A117001_0, c117001_0, e117001, hx117001_0, hl117001_0, hi117001_0⟩ := at_T125 HR0.out x4_1 p117001 q117001
       cases e117001
       replace hx117001_0 := (HB.out.cell (World.block_lt_of_cell? w _ hx117001_0)).trans hx117001_0
       have HR117001_0 := Aside0.mk hi117001_0
       have HC117001_0 := Aside0.mk hl117001_0
       clear hi117001_0 hl117001_0
       replace p117001 := eq_true p117001
       replace q117001 := eq_true q117001
       go_wp2_with (first | ((with_reducible refine gate_callee (f := 147) rfl ?_); refine goesM (some 15) Tryd.func147 #[.agg #[.slice A117001_0 ((rd_T125 l0 x4_1).f0).length c117001_0]] ?_; (with_reducible refine (spec_ChunkOk.calls k1 _ _ ((rd_T125 l0 x4_1).f0) true _ ?side1 ?side2 A4.out).mono ?_); (case side1 => exact cpl (Kd.C_below HR117001_0.out HB.out)); (case side2 => exact HC117001_0.out); rintro e w8 ⟨rfl, hb⟩; refine ⟨_, rfl, ?_⟩; replace HB := Aside0.mk (below_step hbw hb); (try clear hb); (try clear hb2); (try clear hk); (try clear hi); have p117003 : 0 ≤ (x4_1 : Int) := odt; have q117003 : x4_1 < (l0.length : Int) := odt; obtain ⟨ad117003, A117003_0, c117003_0, e117003, hx117003_0, hl117003_0, hi117003_0⟩ := at_T125 HR0.out x4_1 p117003 q117003; obtain rfl : ad117001 = ad117003 := (by injection e117003); replace hx117003_0 := (HB.out.cell (World.block_lt_of_cell? w _ hx117003_0)).trans hx117003_0; have HR117003_0 := Aside0.mk hi117003_0; have HC117003_0 := Aside0.mk hl117003_0; clear hi117003_0 hl117003_0; replace p117003 := eq_true p117003; replace q117003 := eq_true q117003))
       go_roundg k1
       case measure => have := HK1.out; omega
       case rel => exact ⟨(wrap64 (x3_1 + (((rd_T125 l0 x4_1).f0).length : Int))), (wrap64 (x4_1 + 1)), rfs, rfs, H', ⟨by have := HK1.out; omega⟩, ⟨hbw⟩⟩
     ·replace c5 := Bool.eq_false_iff.mpr c5
      subst c5
      have H1 : (some false) = some r := by rw [if_neg (show ¬ (false = true) by decide)] at H; exact H
      clear H
      have H := H1
      clear H1
      obtain rfl := Option.some.inj H
      have p117001 : 0 ≤ (x4_1 : Int) := odt
      have q117001 : x4_1 < (l0.length : Int) := odt
      obtain ⟨ad117001, A117001_0, c117001_0, e117001, hx117001_0, hl117001_0, hi117001_0⟩ := at_T125 HR0.out x4_1 p117001 q117001
      cases e117001
      replace hx117001_0 := (HB.out.cell (World.block_lt_of_cell? w _ hx117001_0)).trans hx117001_0
      have HR117001_0 := Aside0.mk hi117001_0
      have HC117001_0 := Aside0.mk hl117001_0
      clear hi117001_0 hl117001_0
      replace p117001 := eq_true p117001
      replace q117001 := eq_true q117001
      go_wp2_with (first | ((with_reducible refine gate_callee (f := 147) rfl ?_); refine goesM (some 15) Tryd.func147 #[.agg #[.slice A117001_0 ((rd_T125 l0 x4_1).f0).length c117001_0]] ?_; (with_reducible refine (spec_ChunkOk.calls k1 _ _ ((rd_T125 l0 x4_1).f0) false _ ?side1 ?side2 A4.out).mono ?_); (case side1 => exact cpl (Kd.C_below HR117001_0.out HB.out)); (case side2 => exact HC117001_0.out); rintro e w9 ⟨rfl, hb⟩; refine ⟨_, rfl, ?_⟩; replace HB := Aside0.mk (below_step hbw hb); (try clear hb); (try clear hb2); (try clear hk); (try clear hi)))
      go_ret
      exact ⟨erf, hbw⟩
    ·rw [if_neg c3] at H
     exact absurd H (by simp)
   ·rw [if_neg c2] at H
    have c2b0 : decide (x4_1 < (l0.length : Int)) = false := decide_eq_false c2
    clear c2
    obtain rfl := Option.some.inj H
    go_wp2
    go_ret
    exact ⟨erf, hbw⟩
def spec_ChunksText.l0 : Nat → List (S125) → List Int → Int → Option (List Int)
 | 0, _, _, _ => none
 | k + 1, x0, x3, x4 => (spec_ChunksOk.f k x0).bind fun t111004 => (if t111004 = true then (if x4 < (x0.length : Int) then (if 0 ≤ x4 then (if x3.length + ((rd_T125 x0 x4).f0).length < 140737488355328 then (spec_ChunksText.l0 k x0 (x3 ++ ((rd_T125 x0 x4).f0)) (wrap64 (x4 + 1))) else (none)) else (none)) else (some x3)) else (some x3))
def spec_ChunksText.f (k : Nat) (l0 : List (S125)) : Option (List Int) := spec_ChunksText.l0 k l0 (([] : List Int)) 0
theorem spec_ChunksText.mono_l : ∀ k, (∀ y0 y1 y2, LeO (spec_ChunksText.l0 k y0 y1 y2) (spec_ChunksText.l0 (k + 1) y0 y1 y2))
 | 0 => fun _ _ _ r h => by simp [spec_ChunksText.l0] at h
 | k + 1 => by
  have ih0 := spec_ChunksText.mono_l k
  ·intro y0 y1 y2
   unfold spec_ChunksText.l0
   repeat' first
   | (with_reducible exact ih0 _ _ _)
   | (with_reducible exact spec_ChunksOk.mono _ _)
   | (with_reducible exact LeO.refl _)
   | (with_reducible exact LeO.none _)
   | (with_reducible refine LeO.ite ?_ ?_)
   | (with_reducible refine LeO.bind ?_ (fun _ => ?_))
   | exact ih0 _ _ _
   | exact spec_ChunksOk.mono _ _
   | exact LeO.none _
   | refine LeO.ite ?_ ?_
   | refine LeO.bind ?_ (fun _ => ?_)
theorem spec_ChunksText.mono : ∀ a0 k, LeO (spec_ChunksText.f k a0) (spec_ChunksText.f (k + 1) a0) := by
 intro a0 k
 have ih0 := spec_ChunksText.mono_l k
 unfold spec_ChunksText.f
 repeat' first
   | (with_reducible exact ih0 _ _ _)
   | (with_reducible exact spec_ChunksOk.mono _ _)
   | (with_reducible exact LeO.refl _)
   | (with_reducible exact LeO.none _)
   | (with_reducible refine LeO.ite ?_ ?_)
   | (with_reducible refine LeO.bind ?_ (fun _ => ?_))
   | exact ih0 _ _ _
   | exact spec_ChunksOk.mono _ _
   | exact LeO.none _
   | refine LeO.ite ?_ ?_
   | refine LeO.bind ?_ (fun _ => ?_)
set_option maxHeartbeats 8000000 in
set_option maxRecDepth 100000 in
theorem spec_ChunksText.calls (k : Nat) (A0 : Option Addr) (c0 : Nat) (l0 : List (S125)) (r : List Int) (w : World) (hr0 : Kd.C k125 w A0 l0.length l0) (hc0 : l0.length ≤ c0) (h : spec_ChunksText.f k l0 = some r) :
  Calls Tryd.prog 110 #[.slice A0 l0.length c0] w fun e w' => ∃ v0_ : Value, e = .returned (v0_) ∧ Kd.R (Kd.int .u8) 5 w' w.heap.size (fun _ => True) v0_ r ∧ Below w.heap.size w w' := by
 have HR0 := Aside0.mk hr0
 have HC0 := Aside0.mk hc0
 clear hr0 hc0
 have HB := Aside0.mk (Below.refl w.heap.size w)
 have H : (spec_ChunksText.l0 k l0 (([] : List Int)) 0) = some r := h
 clear h
 obtain ⟨y111001, hy111001⟩ : ∃ y_ : List Int, y_ = (([] : List Int)) := ⟨_, rfl⟩
 replace H : (spec_ChunksText.l0 k l0 y111001 0) = some r := repH hy111001 H
 have Ny111001 := Aside0.mk hy111001
 clear hy111001
 have H' := Aside0.mk H
 clear H
 go_enter Tryd.func110, Tryd.ntmps110
 go_wp2_with (first | ((with_reducible refine gate_dst (N := 5) rfl ?_); (try (refine gate_guard (by rfl) ?_; dsimp only)); refine Kd.R_lit (Kd.int .u8) _ 5 ?hg (N := 5) ?hd (xs := ([] : List Int)) (inner := []) (ok := fun _ => True) (okp := fun _ => True) ?hr ?hp (fun _ hk => hk) trivial (Below.refl _ _) (Nat.le_refl _) (by simp) ?_; (case hd => rfl); (case hg => rfl); (case hr => first | (go_simp; done) | (go_simp; rfl)); (case hp => exact (Reps.none _ _)); intro v111002 w2 ho3 hb hg_ hnew_; clear hg_ hnew_; (first | rw [← Ny111001.out] at ho3 | (simp only [Int.reduceToNat] at ho3; rw [← Ny111001.out] at ho3)); have HO111003 := Aside0.mk (Kd.R_lower ho3 (below_size hbw)); replace HB := Aside0.mk (below_step hbw hb); clear hb ho3))
 go_loopg [3, 4] k (fun kq v3 v4 w' => ∃ (x3_1 : List Int) (x4_1 : Int), v4 = .int .i64 x4_1 ∧ Aside0 (spec_ChunksText.l0 kq l0 x3_1 x4_1 = some r) ∧ Aside0 (kq ≤ k) ∧ Aside0 (Kd.R (Kd.int .u8) 5 w' w.heap.size (fun _ => True) v3 x3_1) ∧ Aside0 (Below w.heap.size w w'))
 case atStart => exact ⟨(y111001), (0), rfs, H', ⟨Nat.le_refl _⟩, ⟨(hrnR HO111003)⟩, ⟨hbw⟩⟩
 case round =>
  clear H'
  try clear c1
  try clear p2
  obtain ⟨x3_1, x4_1, rfl, HA, HK1, HO_3, HB⟩ := hrel
  cases gk with
  | zero => exact absurd HA.out (by simp [spec_ChunksText.l0])
  | succ k1 =>
   have H := HA.out
   clear HA
   simp only [spec_ChunksText.l0] at H
   replace H := Option.bind_eq_some_iff.mp H
   obtain ⟨t111004, A40, H⟩ := H
   replace H : (if t111004 = true then (if x4_1 < (l0.length : Int) then (if 0 ≤ x4_1 then (if x3_1.length + ((rd_T125 l0 x4_1).f0).length < 140737488355328 then (spec_ChunksText.l0 k1 l0 (x3_1 ++ ((rd_T125 l0 x4_1).f0)) (wrap64 (x4_1 + 1))) else (none)) else (none)) else (some x3_1)) else (some x3_1)) = some r := H
   have A4 := Aside0.mk A40
   clear A40
   by_cases c5 : t111004 = true
   ·subst c5
    have H1 : (if x4_1 < (l0.length : Int) then (if 0 ≤ x4_1 then (if x3_1.length + ((rd_T125 l0 x4_1).f0).length < 140737488355328 then (spec_ChunksText.l0 k1 l0 (x3_1 ++ ((rd_T125 l0 x4_1).f0)) (wrap64 (x4_1 + 1))) else (none)) else (none)) else (some x3_1)) = some r := by rw [if_pos rfl] at H; exact H
    clear H
    have H := H1
    clear H1
    by_cases c6 : x4_1 < (l0.length : Int)
    ·rw [if_pos c6] at H
     have c6b0 : decide (x4_1 < (l0.length : Int)) = true := decide_eq_true c6
     clear c6
     by_cases c7 : 0 ≤ x4_1
     ·rw [if_pos c7] at H
      have c7b0 : decide (0 ≤ x4_1) = true := decide_eq_true c7
      clear c7
      by_cases c8 : x3_1.length + ((rd_T125 l0 x4_1).f0).length < 140737488355328
      ·rw [if_pos c8] at H
       have LMc8 := Aside0.mk c8
       clear c8
       obtain ⟨y111006, hy111006⟩ : ∃ y_ : List Int, y_ = (x3_1 ++ ((rd_T125 l0 x4_1).f0)) := ⟨_, rfl⟩
       replace H : (spec_ChunksText.l0 k1 l0 y111006 (wrap64 (x4_1 + 1))) = some r := repH hy111006 H
       have Ny111006 := Aside0.mk hy111006
       clear hy111006
       have H' := Aside0.mk H
       clear H
       go_wp2_with (first | ((with_reducible refine gate_callee (f := 116) rfl ?_); refine goesM (some 7) Tryd.func116 #[.slice A0 l0.length c0] ?_; (with_reducible refine (spec_ChunksOk.calls k1 _ _ l0 true _ ?side1 ?side2 A4.out).mono ?_); (case side1 => exact cpl (Kd.C_below HR0.out HB.out)); (case side2 => exact HC0.out); rintro e w9 ⟨rfl, hb⟩; refine ⟨_, rfl, ?_⟩; replace HO_3 := Aside0.mk (Kd.R_below (hrnR HO_3) hb); replace HB := Aside0.mk (below_step hbw hb); (try clear hb); (try clear hb2); (try clear hk); (try clear hi); have p111005 : 0 ≤ (x4_1 : Int) := odt; have q111005 : x4_1 < (l0.length : Int) := odt; obtain ⟨ad111005, A111005_0, c111005_0, e111005, hx111005_0, hl111005_0, hi111005_0⟩ := at_T125 HR0.out x4_1 p111005 q111005; cases e111005; replace hx111005_0 := (HB.out.cell (World.block_lt_of_cell? w _ hx111005_0)).trans hx111005_0; have HR111005_0 := Aside0.mk hi111005_0; have HC111005_0 := Aside0.mk hl111005_0; clear hi111005_0 hl111005_0; replace p111005 := eq_true p111005; replace q111005 := eq_true q111005) | ((with_reducible refine gate_builtin (b := .append) (xs := #[.tmp 16, .tmp 21]) rfl ?_); (try (refine gate_guard (by rfl) ?_; dsimp only)); at_builtin; refine Kd.R_append_rows (Kd.int .u8) (w0 := w) w.heap.size rfl (.tmp 16) (.tmp 21) 22 5 (.int .u8 0) 1 rfl Tryd.underlying22 info5 rfl (by decide) (by omega) u3 x3_1 ((rd_T125 l0 x4_1).f0) _ _ _ (fun _ => True) (fun _ => False) rfl rfl ?aO ?aR (fun _ _ h => h) (fun _ h => h.elim) ?aF ?aB ?aS ?aL ?_; (case aR => repeat (first | exact (Kd.C_below HR111005_0.out HB.out) | (with_reducible refine Kd.C_alloc ?_ _) | (with_reducible refine Kd.C_drewN ?_ _) | (with_reducible refine Kd.C_drew ?_))); (case aB => exact hbw); (case aF => exact (fun _ _ => trivial)); (case aO => exact (hrnR HO_3)); (case aS => exact (below_size hbw)); (case aL => have := LMc8.out; omega); intro v111007 w10 ho hb hg hat; rw [← Ny111006.out] at ho; have HO111008 := Aside0.mk (ho); replace HB := Aside0.mk (hb); clear HO_3; clear ho hb hg hat))
       go_roundg k1
       case measure => have := HK1.out; omega
       case rel => exact ⟨(y111006), (wrap64 (x4_1 + 1)), rfs, H', ⟨by have := HK1.out; omega⟩, ⟨(hrnR HO111008)⟩, ⟨hbw⟩⟩
      ·rw [if_neg c8] at H
       exact absurd H (by simp)
     ·rw [if_neg c7] at H
      exact absurd H (by simp)
    ·rw [if_neg c6] at H
     have c6b0 : decide (x4_1 < (l0.length : Int)) = false := decide_eq_false c6
     clear c6
     obtain rfl := Option.some.inj H
     go_wp2_with (first | ((with_reducible refine gate_callee (f := 116) rfl ?_); refine goesM (some 7) Tryd.func116 #[.slice A0 l0.length c0] ?_; (with_reducible refine (spec_ChunksOk.calls k1 _ _ l0 true _ ?side1 ?side2 A4.out).mono ?_); (case side1 => exact cpl (Kd.C_below HR0.out HB.out)); (case side2 => exact HC0.out); rintro e w11 ⟨rfl, hb⟩; refine ⟨_, rfl, ?_⟩; replace HO_3 := Aside0.mk (Kd.R_below (hrnR HO_3) hb); replace HB := Aside0.mk (below_step hbw hb); (try clear hb); (try clear hb2); (try clear hk); (try clear hi)))
     go_ret
     exact ⟨_, erf, (hrnR HO_3), hbw⟩
   ·replace c5 := Bool.eq_false_iff.mpr c5
    subst c5
    have H1 : (some x3_1) = some r := by rw [if_neg (show ¬ (false = true) by decide)] at H; exact H
    clear H
    have H := H1
    clear H1
    obtain rfl := Option.some.inj H
    go_wp2_with (first | ((with_reducible refine gate_callee (f := 116) rfl ?_); refine goesM (some 7) Tryd.func116 #[.slice A0 l0.length c0] ?_; (with_reducible refine (spec_ChunksOk.calls k1 _ _ l0 false _ ?side1 ?side2 A4.out).mono ?_); (case side1 => exact cpl (Kd.C_below HR0.out HB.out)); (case side2 => exact HC0.out); rintro e w12 ⟨rfl, hb⟩; refine ⟨_, rfl, ?_⟩; replace HO_3 := Aside0.mk (Kd.R_below (hrnR HO_3) hb); replace HB := Aside0.mk (below_step hbw hb); (try clear hb); (try clear hb2); (try clear hk); (try clear hi)))
    go_ret
    exact ⟨_, erf, (hrnR HO_3), hbw⟩
def spec_RopeText.f (k : Nat) (l0_0 : List (S125)) : Option (List Int) := (spec_ChunksText.f k l0_0).bind fun t54002 => (some t54002)
theorem spec_RopeText.mono : ∀ a0 k, LeO (spec_RopeText.f k a0) (spec_RopeText.f (k + 1) a0) := by
 intro a0 k
 unfold spec_RopeText.f
 repeat' first
   | (with_reducible exact spec_ChunksText.mono _ _)
   | (with_reducible exact LeO.refl _)
   | (with_reducible exact LeO.none _)
   | (with_reducible refine LeO.ite ?_ ?_)
   | (with_reducible refine LeO.bind ?_ (fun _ => ?_))
   | exact spec_ChunksText.mono _ _
   | exact LeO.none _
   | refine LeO.ite ?_ ?_
   | refine LeO.bind ?_ (fun _ => ?_)
set_option maxHeartbeats 8000000 in
set_option maxRecDepth 100000 in
theorem spec_RopeText.calls (k : Nat) (A0_0 : Option Addr) (c0_0 : Nat) (l0_0 : List (S125)) (r : List Int) (w : World) (hr0_0 : Kd.C k125 w A0_0 l0_0.length l0_0) (hc0_0 : l0_0.length ≤ c0_0) (h : spec_RopeText.f k l0_0 = some r) :
  Calls Tryd.prog 53 #[.agg #[.slice A0_0 l0_0.length c0_0]] w fun e w' => ∃ v0_ : Value, e = .returned (v0_) ∧ Kd.R (Kd.int .u8) 5 w' w.heap.size (fun _ => True) v0_ r ∧ Below w.heap.size w w' := by
 have hu71 := Tryd.underlying71
 have HR0_0 := Aside0.mk hr0_0
 have HC0_0 := Aside0.mk hc0_0
 clear hr0_0 hc0_0
 have HB := Aside0.mk (Below.refl w.heap.size w)
 have H : ((spec_ChunksText.f k l0_0).bind fun t54002 => (some t54002)) = some r := h
 clear h
 replace H := Option.bind_eq_some_iff.mp H
 obtain ⟨t54002, A20, H⟩ := H
 replace H : (some t54002) = some r := H
 have A2 := Aside0.mk A20
 clear A20
 obtain rfl := Option.some.inj H
 go_enter Tryd.func53, Tryd.ntmps53
 go_wp2_with (first | ((with_reducible refine gate_dst (N := 1) rfl ?_); refine boxE 1 #[.slice A0_0 l0_0.length c0_0] 71 ?_; intro gb54001 hg w3 BK54001 hb; have GW54001 := Aside0.mk (gsz hg hbw : w.heap.size ≤ gb54001); have GE54001 := GW54001; replace HB := Aside0.mk (below_step hbw hb); clear hb hg; have hcz4_0 : w3.cell? ⟨gb54001, 0, none⟩ = some (.slice A0_0 l0_0.length c0_0) := (blk_cell BK54001.out 0).trans rfl; have hfz4_0 := blk_frozen BK54001.out 0) | ((with_reducible refine gate_callee (f := 110) rfl ?_); refine goesM (some 5) Tryd.func110 #[.slice A0_0 l0_0.length c0_0] ?_; (with_reducible refine (spec_ChunksText.calls k _ _ l0_0 t54002 _ ?side1 ?side2 A2.out).mono ?_); (case side1 => exact cpl (Kd.C_below HR0_0.out HB.out)); (case side2 => exact HC0_0.out); rintro e w5 ⟨v54003, rfl, ho0, hb⟩; refine ⟨_, rfl, ?_⟩; have HO54004 := Aside0.mk (Kd.R_lower ho0 (below_size hbs)); replace BK54001 := Aside0.mk (bkb BK54001 hb); replace HB := Aside0.mk (below_step hbs hb); (try clear hb); (try clear hb2); (try clear hk); (try clear hi); (try clear ho0)))
 go_ret
 exact ⟨_, erf, (hrnR HO54004), hbs⟩
def spec_l01Cur_once.f (s0_0 : List Int) (s0_1 : Int) (s0_2 : Int) (a1 : Int) : Option (Bool × Int × Int) := (spec_l01Cur_pick.f s0_0 s0_1 s0_2 a1).bind fun bt71001 => (some ((bt71001.1 == (wrap64 (a1 - 1))), bt71001.2.1, bt71001.2.2))
set_option maxHeartbeats 8000000 in
set_option maxRecDepth 100000 in
theorem spec_l01Cur_once.calls (g : Nat) (s0_0 : List Int) (s0_1 : Int) (s0_2 : Int) (a1 : Int) (r1 : Bool) (r2 : Int) (r3 : Int) (w0 w : World) (hI : IsS141 w0 w g s0_0 s0_1 s0_2) (hB : Below w0.heap.size w0 w) (h : spec_l01Cur_once.f s0_0 s0_1 s0_2 a1 = some (r1, r2, r3)) :
  Calls Tryd.prog 70 #[.pointer (some ⟨g, 0, none⟩), .int .i64 a1] w fun e w' => e = .returned (.bool r1) ∧ IsS141 w0 w' g s0_0 r2 r3 ∧ Below w0.heap.size w0 w' ∧ KeepBut w w' g none := by
 have HI0 := Aside0.mk hI
 have HK := Aside0.mk (KeepBut.refl w g none)
 have HL := Aside0.mk hB.size
 clear hI
 have HW0 := Aside0.mk hB.size
 have HB := Aside0.mk hB
 clear hB
 have H : ((spec_l01Cur_pick.f s0_0 s0_1 s0_2 a1).bind fun bt71001 => (some ((bt71001.1 == (wrap64 (a1 - 1))), bt71001.2.1, bt71001.2.2))) = some (r1, r2, r3) := h
 clear h
 replace H := Option.bind_eq_some_iff.mp H
 obtain ⟨⟨t71001, t71002, t71003⟩, A30, H⟩ := H
 replace H : (some ((t71001 == (wrap64 (a1 - 1))), t71002, t71003)) = some (r1, r2, r3) := H
 have A3 := Aside0.mk A30
 clear A30
 simp only [Option.some.injEq, Prod.mk.injEq] at H
 obtain ⟨rfl, rfl, rfl⟩ := H
 go_enter Tryd.func70, Tryd.ntmps70
 go_wp2_with (first | ((with_reducible refine gate_callee (f := 64) rfl ?_); refine goesM (some 7) Tryd.func64 #[.pointer (some ⟨g, 0, none⟩), .int .i64 a1] ?_; (with_reducible refine (spec_l01Cur_pick.calls g s0_0 s0_1 s0_2 a1 t71001 t71002 t71003 w0 _ ?side1 ?side2 A3.out).mono ?_); (case side1 => exact pIIsS141 HI0); (case side2 => exact hbIsS141); rintro e w4 ⟨rfl, hi, hb, hk⟩; refine ⟨_, rfl, ?_⟩; replace HK := Aside0.mk (KeepBut.trans hkk hk (.inl rfl)); replace HB := Aside0.mk (hb); replace HI0 := Aside0.mk (hi); (try clear hb); (try clear hb2); (try clear hk); (try clear hi)))
 go_ret
 exact ⟨erf, pIIsS141 HI0, hbIsS141, hkk⟩
def spec_l01Cur_cutOf.j0 : Nat → List Int → Bool → List Int → Int → Int → List (S125) → Option (Int × Int × Int)
 | 0, _, _, _, _, _, _ => none
 | k + 1, x5, x16, x1000, x1001, x1002, x108002000 => if x16 = true then ((spec_l01Cur_pick.f x1000 x1001 x1002 (mn 256 (x5.length : Int))).bind fun bt108011 => (if 0 ≤ bt108011.1 then (if bt108011.1 < (x5.length : Int) then (some (rd x5 bt108011.1, bt108011.2.1, bt108011.2.2)) else (none)) else (none))) else ((spec_RopeText.f k x108002000).bind fun t108015 => ((spec_l01Cur_place.f x1000 x1001 x1002 (mn 200 (t108015.length : Int))).bind fun bt108018 => (some (bt108018.1, bt108018.2.1, bt108018.2.2))))
def spec_l01Cur_cutOf.f (k : Nat) (s0_0 : List Int) (s0_1 : Int) (s0_2 : Int) (l1_0 : List (S125)) : Option (Int × Int × Int) := (spec_RopeText.f k l1_0).bind fun t108002 => ((spec_l01Cuts.f k t108002).bind fun t108005 => (if (t108005.length : Int) > 0 then ((spec_l01Cur_once.f s0_0 s0_1 s0_2 9).bind fun bt108008 => (spec_l01Cur_cutOf.j0 k t108005 (!bt108008.1) s0_0 bt108008.2.1 bt108008.2.2 l1_0)) else (spec_l01Cur_cutOf.j0 k t108005 false s0_0 s0_1 s0_2 l1_0)))
theorem spec_l01Cur_cutOf.mono_l : ∀ k, (∀ y0 y1 y2 y3 y4 y5, LeO (spec_l01Cur_cutOf.j0 k y0 y1 y2 y3 y4 y5) (spec_l01Cur_cutOf.j0 (k + 1) y0 y1 y2 y3 y4 y5))
 | 0 => fun _ _ _ _ _ _ r h => by simp [spec_l01Cur_cutOf.j0] at h
 | k + 1 => by
  have ih0 := spec_l01Cur_cutOf.mono_l k
  ·intro y0 y1 y2 y3 y4 y5
   unfold spec_l01Cur_cutOf.j0
   repeat' first
   | (with_reducible exact ih0 _ _ _ _ _ _)
   | (with_reducible exact spec_RopeText.mono _ _)
   | (with_reducible exact spec_l01Cuts.mono _ _)
   | (with_reducible exact LeO.refl _)
   | (with_reducible exact LeO.none _)
   | (with_reducible refine LeO.ite ?_ ?_)
   | (with_reducible refine LeO.bind ?_ (fun _ => ?_))
   | exact ih0 _ _ _ _ _ _
   | exact spec_RopeText.mono _ _
   | exact spec_l01Cuts.mono _ _
   | exact LeO.none _
   | refine LeO.ite ?_ ?_
   | refine LeO.bind ?_ (fun _ => ?_)
theorem spec_l01Cur_cutOf.mono : ∀ a0 a1 a2 a3 k, LeO (spec_l01Cur_cutOf.f k a0 a1 a2 a3) (spec_l01Cur_cutOf.f (k + 1) a0 a1 a2 a3) := by
 intro a0 a1 a2 a3 k
 have ih0 := spec_l01Cur_cutOf.mono_l k
 unfold spec_l01Cur_cutOf.f
 repeat' first
   | (with_reducible exact ih0 _ _ _ _ _ _)
   | (with_reducible exact spec_RopeText.mono _ _)
   | (with_reducible exact spec_l01Cuts.mono _ _)
   | (with_reducible exact LeO.refl _)
   | (with_reducible exact LeO.none _)
   | (with_reducible refine LeO.ite ?_ ?_)
   | (with_reducible refine LeO.bind ?_ (fun _ => ?_))
   | exact ih0 _ _ _ _ _ _
   | exact spec_RopeText.mono _ _
   | exact spec_l01Cuts.mono _ _
   | exact LeO.none _
   | refine LeO.ite ?_ ?_
   | refine LeO.bind ?_ (fun _ => ?_)
set_option maxHeartbeats 8000000 in
set_option maxRecDepth 100000 in
theorem spec_l01Cur_cutOf.calls (k : Nat) (g : Nat) (s0_0 : List Int) (s0_1 : Int) (s0_2 : Int) (A1_0 : Option Addr) (c1_0 : Nat) (l1_0 : List (S125)) (r1 : Int) (r2 : Int) (r3 : Int) (w0 w : World) (hI : IsS141 w0 w g s0_0 s0_1 s0_2) (hB : Below w0.heap.size w0 w) (hr1_0 : ∀ W_, KeepBut w W_ g none → Kd.C k125 W_ A1_0 l1_0.length l1_0) (hc1_0 : l1_0.length ≤ c1_0) (h : spec_l01Cur_cutOf.f k s0_0 s0_1 s0_2 l1_0 = some (r1, r2, r3)) :
  Calls Tryd.prog 107 #[.pointer (some ⟨g, 0, none⟩), .agg #[.slice A1_0 l1_0.length c1_0]] w fun e w' => e = .returned (.int .i64 r1) ∧ IsS141 w0 w' g s0_0 r2 r3 ∧ Below w0.heap.size w0 w' ∧ KeepBut w w' g none := by
 have hu71 := Tryd.underlying71
 have HR1_0 := Aside0.mk hr1_0
 have HC1_0 := Aside0.mk hc1_0
 clear hr1_0 hc1_0
 have HI0 := Aside0.mk hI
 have HK := Aside0.mk (KeepBut.refl w g none)
 have HL := Aside0.mk hB.size
 clear hI
 have HW0 := Aside0.mk hB.size
 have HB := Aside0.mk hB
 clear hB
 have H : ((spec_RopeText.f k l1_0).bind fun t108002 => ((spec_l01Cuts.f k t108002).bind fun t108005 => (if (t108005.length : Int) > 0 then ((spec_l01Cur_once.f s0_0 s0_1 s0_2 9).bind fun bt108008 => (spec_l01Cur_cutOf.j0 k t108005 (!bt108008.1) s0_0 bt108008.2.1 bt108008.2.2 l1_0)) else (spec_l01Cur_cutOf.j0 k t108005 false s0_0 s0_1 s0_2 l1_0)))) = some (r1, r2, r3) := h
 clear h
 replace H := Option.bind_eq_some_iff.mp H
 obtain ⟨t108002, A30, H⟩ := H
 replace H : ((spec_l01Cuts.f k t108002).bind fun t108005 => (if (t108005.length : Int) > 0 then ((spec_l01Cur_once.f s0_0 s0_1 s0_2 9).bind fun bt108008 => (spec_l01Cur_cutOf.j0 k t108005 (!bt108008.1) s0_0 bt108008.2.1 bt108008.2.2 l1_0)) else (spec_l01Cur_cutOf.j0 k t108005 false s0_0 s0_1 s0_2 l1_0))) = some (r1, r2, r3) := H
 have A3 := Aside0.mk A30
 clear A30
 replace H := Option.bind_eq_some_iff.mp H
 obtain ⟨t108005, A40, H⟩ := H
 replace H : (if (t108005.length : Int) > 0 then ((spec_l01Cur_once.f s0_0 s0_1 s0_2 9).bind fun bt108008 => (spec_l01Cur_cutOf.j0 k t108005 (!bt108008.1) s0_0 bt108008.2.1 bt108008.2.2 l1_0)) else (spec_l01Cur_cutOf.j0 k t108005 false s0_0 s0_1 s0_2 l1_0)) = some (r1, r2, r3) := H
 have A4 := Aside0.mk A40
 clear A40
 have HC5 := Aside0.mk H
 clear H
 go_enter Tryd.func107, Tryd.ntmps107
 go_upto_region 2 with (first | ((with_reducible refine gate_dst (N := 3) rfl ?_); refine boxE 3 #[.slice A1_0 l1_0.length c1_0] 71 ?_; intro gb108001 hg w6 BK108001 hb; have GW108001 := Aside0.mk ((by rw [hg]; exact (keep_size (w := w) (g := g) (row := none) hkk) : w.heap.size ≤ gb108001)); have GE108001 := Aside0.mk ((Nat.le_trans HW0.out (by rw [hg]; exact (keep_size (w := w) (g := g) (row := none) hkk) : w.heap.size ≤ gb108001) : w0.heap.size ≤ gb108001)); have NB0_108001 := Aside0.mk ((by rw [hg]; exact Nat.ne_of_lt (IsS141.lt (show IsS141 w0 _ g s0_0 s0_1 s0_2 from pIIsS141 HI0)) : g ≠ gb108001)); have NB108001_0 := Aside0.mk ((by rw [hg]; exact Nat.ne_of_gt (IsS141.lt (show IsS141 w0 _ g s0_0 s0_1 s0_2 from pIIsS141 HI0)) : gb108001 ≠ g)); replace HK := Aside0.mk (KeepBut.trans hkk (KeepBut.of_below hb g none) (.inl rfl)); replace HB := Aside0.mk (below_step hbIsS141 hb); replace HI0 := Aside0.mk (IsS141.below (pIIsS141 HI0) hb); clear hb hg; have hnb7 := NB108001_0.out; have hnc7 := NB0_108001.out; have hcz8_0 : w6.cell? ⟨gb108001, 0, none⟩ = some (.slice A1_0 l1_0.length c1_0) := (blk_cell BK108001.out 0).trans rfl; have hfz8_0 := blk_frozen BK108001.out 0) | ((with_reducible refine gate_callee (f := 53) rfl ?_); refine goesM (some 7) Tryd.func53 #[.agg #[.slice A1_0 l1_0.length c1_0]] ?_; (with_reducible refine (spec_RopeText.calls k _ _ l1_0 t108002 _ ?side1 ?side2 A3.out).mono ?_); (case side1 => exact Kd.C_foot_now HR1_0.out (by repeat (first | (with_reducible first | exact HK.out | apply KeepBut.set_ | apply keep_drewN | apply keep_drew | apply keep_alloc | refine keep_far ?_ GW108001.out _) | exact HK.out))); (case side2 => exact HC1_0.out); rintro e w9 ⟨v108003, rfl, ho0, hb⟩; refine ⟨_, rfl, ?_⟩; have HO108004 := Aside0.mk (Kd.R_lower ho0 (keep_size (w := w) (g := g) (row := none) (by repeat (first | (with_reducible first | exact HK.out | apply KeepBut.set_ | apply keep_drewN | apply keep_drew | apply keep_alloc | refine keep_far ?_ GW108001.out _) | exact HK.out)))); replace BK108001 := Aside0.mk (bkb BK108001 hb); replace HK := Aside0.mk (KeepBut.trans (by repeat (first | (with_reducible first | exact HK.out | apply KeepBut.set_ | apply keep_drewN | apply keep_drew | apply keep_alloc | refine keep_far ?_ GW108001.out _) | exact HK.out)) (KeepBut.of_below hb g none) (.inl rfl)); replace HB := Aside0.mk (below_step hbIsS141 hb); replace HI0 := Aside0.mk (IsS141.below (pIIsS141 HI0) hb); (try clear hb); (try clear hb2); (try clear hk); (try clear hi); (try clear ho0); obtain ⟨Ao10, co10, eo10⟩ := Kd.R_slice HO108004.out; subst eo10) | ((with_reducible refine gate_callee (f := 73) rfl ?_); refine goesM (some 8) Tryd.func73 #[.slice Ao10 t108002.length co10] ?_; (with_reducible refine (spec_l01Cuts.calls k _ _ t108002 t108005 _ ?side1 ?side2 A4.out).mono ?_); (case side1 => exact cpl (Kd.R_reads' HO108004.out).2.2); (case side2 => exact (Kd.R_reads' HO108004.out).2.1); rintro e w11 ⟨v108006, rfl, ho0, hb⟩; refine ⟨_, rfl, ?_⟩; have HO108007 := Aside0.mk (Kd.R_lower ho0 (keep_size (w := w) (g := g) (row := none) (by repeat (first | (with_reducible first | exact HK.out | apply KeepBut.set_ | apply keep_drewN | apply keep_drew | apply keep_alloc | refine keep_far ?_ GW108001.out _) | exact HK.out)))); replace HO108004 := Aside0.mk (Kd.R_below (hrnR HO108004) hb); replace BK108001 := Aside0.mk (bkb BK108001 hb); replace HK := Aside0.mk (KeepBut.trans (by repeat (first | (with_reducible first | exact HK.out | apply KeepBut.set_ | apply keep_drewN | apply keep_drew | apply keep_alloc | refine keep_far ?_ GW108001.out _) | exact HK.out)) (KeepBut.of_below hb g none) (.inl rfl)); replace HB := Aside0.mk (below_step hbIsS141 hb); replace HI0 := Aside0.mk (IsS141.below (pIIsS141 HI0) hb); (try clear hb); (try clear hb2); (try clear hk); (try clear hi); (try clear ho0)))
 (try simp only [Act.put, List.setIfInBounds_toArray, List.set_cons_zero, List.set_cons_succ])
 go_cut [16] (fun v16 wc => ∃ (kq : Nat) (x16_4 : Bool) (x1001_4 : Int) (x1002_4 : Int), v16 = .bool x16_4 ∧ Aside0 (spec_l01Cur_cutOf.j0 kq t108005 x16_4 s0_0 x1001_4 x1002_4 l1_0 = some (r1, r2, r3)) ∧ Aside0 (kq ≤ k) ∧ Aside0 (Kd.R (Kd.int .i64) 3 wc w.heap.size (fun _ => True) v108006 t108005) ∧ Aside0 (wc.heap[gb108001]? = some (.cells #[(.slice A1_0 l1_0.length c1_0)] 71 (0, 0))) ∧ Aside0 (IsS141 w0 wc g s0_0 x1001_4 x1002_4) ∧ Aside0 (KeepBut w wc g none) ∧ Aside0 (Below w0.heap.size w0 wc))
 case first =>
  have H := HC5.out
  clear HC5
  by_cases c12 : (t108005.length : Int) > 0
  ·rw [if_pos c12] at H
   have c12b0 : decide (0 < (t108005.length : Int)) = true := decide_eq_true c12
   have c12b1 : decide (0 < t108005.length) = true := decide_eq_true (by omega)
   clear c12
   (first | rw [c12b0] | (simp only [i64_w, i32_w]; rw [c12b0]) | skip)
   replace H := Option.bind_eq_some_iff.mp H
   obtain ⟨⟨t108008, t108009, t108010⟩, A130, H⟩ := H
   replace H : (spec_l01Cur_cutOf.j0 k t108005 (!t108008) s0_0 t108009 t108010 l1_0) = some (r1, r2, r3) := H
   have A13 := Aside0.mk A130
   clear A130
   have H' := Aside0.mk H
   clear H
   obtain ⟨Ao14, co14, eo14⟩ := Kd.R_slice HO108007.out
   subst eo14
   go_wp2_with (first | (go_at_call 70; (with_reducible refine (spec_l01Cur_once.calls g s0_0 s0_1 s0_2 9 t108008 t108009 t108010 w0 _ ?side1 ?side2 A13.out).mono ?_); (case side1 => exact pIIsS141 HI0); (case side2 => exact hbIsS141); rintro e w15 ⟨rfl, hi, hb, hk⟩; replace BK108001 := Aside0.mk (bkk hk BK108001 NB108001_0.out); replace HO108004 := Aside0.mk (Kd.R_mono (Kd.R_keep (IsS141.apart (show IsS141 w0 _ g s0_0 s0_1 s0_2 from pIIsS141 HI0) (hrnR HO108004) (by decide)) hk (fun _ h => h.2)) (fun _ h => h.1)); replace HO108007 := Aside0.mk (Kd.R_mono (Kd.R_keep (IsS141.apart (show IsS141 w0 _ g s0_0 s0_1 s0_2 from pIIsS141 HI0) (hrnR HO108007) (by decide)) hk (fun _ h => h.2)) (fun _ h => h.1)); replace HK := Aside0.mk (KeepBut.trans (by repeat (first | (with_reducible first | exact HK.out | apply KeepBut.set_ | apply keep_drewN | apply keep_drew | apply keep_alloc | refine keep_far ?_ GW108001.out _) | exact HK.out)) hk (.inl rfl)); replace HB := Aside0.mk (hb); replace HI0 := Aside0.mk (hi); (try clear hb); (try clear hb2); (try clear hk); (try clear hi)))
   go_meet
   case rel => exact ⟨_, (!t108008), (t108009), (t108010), rfs, H', ⟨by first | omega | exact Nat.le_refl _⟩, ⟨(hrnR HO108007)⟩, ⟨by refine pB ?_; exact BK108001.out⟩, ⟨pIIsS141 HI0⟩, ⟨by repeat (first | (with_reducible first | exact HK.out | apply KeepBut.set_ | apply keep_drewN | apply keep_drew | apply keep_alloc | refine keep_far ?_ GW108001.out _) | exact HK.out)⟩, ⟨hbIsS141⟩⟩
  ·rw [if_neg c12] at H
   have c12b0 : decide (0 < (t108005.length : Int)) = false := decide_eq_false c12
   have c12b1 : decide (0 < t108005.length) = false := decide_eq_false (by omega)
   clear c12
   (first | rw [c12b0] | (simp only [i64_w, i32_w]; rw [c12b0]) | skip)
   have H' := Aside0.mk H
   clear H
   obtain ⟨Ao16, co16, eo16⟩ := Kd.R_slice HO108007.out
   subst eo16
   go_wp2
   go_meet
   case rel => exact ⟨_, (false), (s0_1), (s0_2), rfs, H', ⟨by first | omega | exact Nat.le_refl _⟩, ⟨(hrnR HO108007)⟩, ⟨by refine pB ?_; exact BK108001.out⟩, ⟨pIIsS141 HI0⟩, ⟨by repeat (first | (with_reducible first | exact HK.out | apply KeepBut.set_ | apply keep_drewN | apply keep_drew | apply keep_alloc | refine keep_far ?_ GW108001.out _) | exact HK.out)⟩, ⟨hbIsS141⟩⟩
 case rest =>
  clear HC5
  try clear c1
  try clear p2
  try clear c5
  try clear c7
  try clear c10
  try clear c12
  try clear c12b0
  try clear c12b1
  try clear hcz8_0
  try clear hfz8_0
  obtain ⟨kq, x16_4, x1001_4, x1002_4, rfl, HA, HJ4, HO_5, BK108001, HI0, HK, HB⟩ := hcut
  cases kq with
  | zero => exact absurd HA.out (by simp [spec_l01Cur_cutOf.j0])
  | succ kj4 =>
   have H := HA.out
   clear HA
   simp only [spec_l01Cur_cutOf.j0] at H
   by_cases c17 : x16_4 = true
   ·subst c17
    have H1 : ((spec_l01Cur_pick.f s0_0 x1001_4 x1002_4 (mn 256 (t108005.length : Int))).bind fun bt108011 => (if 0 ≤ bt108011.1 then (if bt108011.1 < (t108005.length : Int) then (some (rd t108005 bt108011.1, bt108011.2.1, bt108011.2.2)) else (none)) else (none))) = some (r1, r2, r3) := by rw [if_pos rfl] at H; exact H
    clear H
    have H := H1
    clear H1
    obtain ⟨ji18, hji18⟩ : ∃ j_ : Int, (mn 256 (t108005.length : Int)) = j_ := ⟨_, rfl⟩
    replace H : ((spec_l01Cur_pick.f s0_0 x1001_4 x1002_4 (ji18)).bind fun bt108011 => (if 0 ≤ bt108011.1 then (if bt108011.1 < (t108005.length : Int) then (some (rd t108005 bt108011.1, bt108011.2.1, bt108011.2.2)) else (none)) else (none))) = some (r1, r2, r3) := by first | (rw [hji18] at H; exact H) | (simp only [hji18] at H ⊢; exact H)
    have hji18_ : (if (t108005.length : Int) < 256 then (t108005.length : Int) else 256) = ji18 := hji18
    replace H := Option.bind_eq_some_iff.mp H
    obtain ⟨⟨t108011, t108012, t108013⟩, A190, H⟩ := H
    replace H : (if 0 ≤ t108011 then (if t108011 < (t108005.length : Int) then (some (rd t108005 t108011, t108012, t108013)) else (none)) else (none)) = some (r1, r2, r3) := H
    have A19 := Aside0.mk A190
    clear A190
    by_cases c20 : 0 ≤ t108011
    ·rw [if_pos c20] at H
     have c20b0 : decide (0 ≤ t108011) = true := decide_eq_true c20
     clear c20
     by_cases c21 : t108011 < (t108005.length : Int)
     ·rw [if_pos c21] at H
      have c21b0 : decide (t108011 < (t108005.length : Int)) = true := decide_eq_true c21
      clear c21
      simp only [Option.some.injEq, Prod.mk.injEq] at H
      obtain ⟨rfl, rfl, rfl⟩ := H
      obtain ⟨Ao22, co22, eo22⟩ := Kd.R_slice HO_5.out
      subst eo22
      go_wp2_with (first | ((with_reducible refine gate_callee (f := 64) rfl ?_); refine goesL_ (some 22) rfl rfl Tryd.func64 (by kernel_rfl) rfl #[.pointer (some ⟨g, 0, none⟩), .int .i64 ji18] rfl (by (try simp only [List.map_toArray, List.map_cons, List.map_nil]); first | done | (simp only [hji18]; rfl) | rfl | (simp only [List.length_drop, List.length_take]; rfl)) ?_; (with_reducible refine (spec_l01Cur_pick.calls g s0_0 x1001_4 x1002_4 ji18 t108011 t108012 t108013 w0 _ ?side1 ?side2 A19.out).mono ?_); (case side1 => exact pIIsS141 HI0); (case side2 => exact hbIsS141); rintro e w23 ⟨rfl, hi, hb, hk⟩; refine ⟨_, rfl, ?_⟩; replace HO_5 := Aside0.mk (Kd.R_mono (Kd.R_keep (IsS141.apart (show IsS141 w0 _ g s0_0 x1001_4 x1002_4 from pIIsS141 HI0) (hrnR HO_5) (by decide)) hk (fun _ h => h.2)) (fun _ h => h.1)); replace BK108001 := Aside0.mk (bkk hk BK108001 NB108001_0.out); replace HK := Aside0.mk (KeepBut.trans (by repeat (first | (with_reducible first | exact HK.out | apply KeepBut.set_ | apply keep_drewN | apply keep_drew | apply keep_alloc | refine keep_far ?_ GW108001.out _) | exact HK.out)) hk (.inl rfl)); replace HB := Aside0.mk (hb); replace HI0 := Aside0.mk (hi); (try clear hb); (try clear hb2); (try clear hk); (try clear hi); have p108014 : 0 ≤ (t108011 : Int) := odt; have q108014 : t108011 < (t108005.length : Int) := odt; obtain ⟨ad108014, e108014, hx108014_0⟩ := Kd.at_int (Kd.R_reads' HO_5.out).2.2 t108011 p108014 q108014; cases e108014; replace p108014 := eq_true p108014; replace q108014 := eq_true q108014))
      go_ret
      exact ⟨by first | rfl | (simp [errW_none, errW_some] <;> rfl) | (simp only [← hji18]; first | rfl | (simp [errW_none, errW_some] <;> rfl)) | (simp [*, errW_none, errW_some] <;> rfl), pIIsS141 HI0, hbIsS141, by repeat (first | (with_reducible first | exact HK.out | apply KeepBut.set_ | apply keep_drewN | apply keep_drew | apply keep_alloc | refine keep_far ?_ GW108001.out _) | exact HK.out)⟩
     ·rw [if_neg c21] at H
      exact absurd H (by simp)
    ·rw [if_neg c20] at H
     exact absurd H (by simp)
   ·replace c17 := Bool.eq_false_iff.mpr c17
    subst c17
    have H1 : ((spec_RopeText.f kj4 l1_0).bind fun t108015 => ((spec_l01Cur_place.f s0_0 x1001_4 x1002_4 (mn 200 (t108015.length : Int))).bind fun bt108018 => (some (bt108018.1, bt108018.2.1, bt108018.2.2)))) = some (r1, r2, r3) := by rw [if_neg (show ¬ (false = true) by decide)] at H; exact H
    clear H
    have H := H1
    clear H1
    replace H := Option.bind_eq_some_iff.mp H
    obtain ⟨t108015, A240, H⟩ := H
    replace H : ((spec_l01Cur_place.f s0_0 x1001_4 x1002_4 (mn 200 (t108015.length : Int))).bind fun bt108018 => (some (bt108018.1, bt108018.2.1, bt108018.2.2))) = some (r1, r2, r3) := H
    have A24 := Aside0.mk A240
    clear A240
    obtain ⟨ji25, hji25⟩ : ∃ j_ : Int, (mn 200 (t108015.length : Int)) = j_ := ⟨_, rfl⟩
    replace H : ((spec_l01Cur_place.f s0_0 x1001_4 x1002_4 (ji25)).bind fun bt108018 => (some (bt108018.1, bt108018.2.1, bt108018.2.2))) = some (r1, r2, r3) := by first | (rw [hji25] at H; exact H) | (simp only [hji25] at H ⊢; exact H)
    (try rw [hji25] at A24)
    (try (have hji25h : ji25 ≤ 200 := by (rw [← hji25]; unfold mn; (repeat' split) <;> omega)))
    (try (have hji25g : ji25 ≤ 64 := by omega))
    (try (have hji25l : 0 ≤ ji25 := by (rw [← hji25]; unfold mn; (repeat' split) <;> omega)))
    (try (have hji25m : 0 ≤ ji25 := by omega))
    have hji25_ : (if (t108015.length : Int) < 200 then (t108015.length : Int) else 200) = ji25 := hji25
    replace H := Option.bind_eq_some_iff.mp H
    obtain ⟨⟨t108018, t108019, t108020⟩, A260, H⟩ := H
    replace H : (some (t108018, t108019, t108020)) = some (r1, r2, r3) := H
    have A26 := Aside0.mk A260
    clear A260
    simp only [Option.some.injEq, Prod.mk.injEq] at H
    obtain ⟨rfl, rfl, rfl⟩ := H
    have hnb27 := NB108001_0.out
    have hnc27 := NB0_108001.out
    have hcz28_0 : wc.cell? ⟨gb108001, 0, none⟩ = some (.slice A1_0 l1_0.length c1_0) := (blk_cell BK108001.out 0).trans rfl
    have hfz28_0 := blk_frozen BK108001.out 0
    go_wp2_with (first | ((with_reducible refine gate_callee (f := 53) rfl ?_); refine goesM (some 27) Tryd.func53 #[.agg #[.slice A1_0 l1_0.length c1_0]] ?_; (with_reducible refine (spec_RopeText.calls kj4 _ _ l1_0 t108015 _ ?side1 ?side2 A24.out).mono ?_); (case side1 => exact Kd.C_foot_now HR1_0.out (by repeat (first | (with_reducible first | exact HK.out | apply KeepBut.set_ | apply keep_drewN | apply keep_drew | apply keep_alloc | refine keep_far ?_ GW108001.out _) | exact HK.out))); (case side2 => exact HC1_0.out); rintro e w29 ⟨v108016, rfl, ho0, hb⟩; refine ⟨_, rfl, ?_⟩; have HO108017 := Aside0.mk (Kd.R_lower ho0 (keep_size (w := w) (g := g) (row := none) (by repeat (first | (with_reducible first | exact HK.out | apply KeepBut.set_ | apply keep_drewN | apply keep_drew | apply keep_alloc | refine keep_far ?_ GW108001.out _) | exact HK.out)))); replace HO_5 := Aside0.mk (Kd.R_below (hrnR HO_5) hb); replace BK108001 := Aside0.mk (bkb BK108001 hb); replace HK := Aside0.mk (KeepBut.trans (by repeat (first | (with_reducible first | exact HK.out | apply KeepBut.set_ | apply keep_drewN | apply keep_drew | apply keep_alloc | refine keep_far ?_ GW108001.out _) | exact HK.out)) (KeepBut.of_below hb g none) (.inl rfl)); replace HB := Aside0.mk (below_step hbIsS141 hb); replace HI0 := Aside0.mk (IsS141.below (pIIsS141 HI0) hb); (try clear hb); (try clear hb2); (try clear hk); (try clear hi); (try clear ho0); obtain ⟨Ao30, co30, eo30⟩ := Kd.R_slice HO108017.out; subst eo30) | ((with_reducible refine gate_callee (f := 144) rfl ?_); refine goesL_ (some 30) rfl rfl Tryd.func144 (by kernel_rfl) rfl #[.pointer (some ⟨g, 0, none⟩), .int .i64 ji25] rfl (by (try simp only [List.map_toArray, List.map_cons, List.map_nil]); first | done | (simp only [hji25]; rfl) | rfl | (simp only [List.length_drop, List.length_take]; rfl)) ?_; (with_reducible refine (spec_l01Cur_place.calls g s0_0 x1001_4 x1002_4 ji25 t108018 t108019 t108020 w0 _ ?side1 ?side2 A26.out).mono ?_); (case side1 => exact pIIsS141 HI0); (case side2 => exact hbIsS141); rintro e w31 ⟨rfl, hi, hb, hk⟩; refine ⟨_, rfl, ?_⟩; replace HO_5 := Aside0.mk (Kd.R_mono (Kd.R_keep (IsS141.apart (show IsS141 w0 _ g s0_0 x1001_4 x1002_4 from pIIsS141 HI0) (hrnR HO_5) (by decide)) hk (fun _ h => h.2)) (fun _ h => h.1)); replace BK108001 := Aside0.mk (bkk hk BK108001 NB108001_0.out); replace HO108017 := Aside0.mk (Kd.R_mono (Kd.R_keep (IsS141.apart (show IsS141 w0 _ g s0_0 x1001_4 x1002_4 from pIIsS141 HI0) (hrnR HO108017) (by decide)) hk (fun _ h => h.2)) (fun _ h => h.1)); replace HK := Aside0.mk (KeepBut.trans (by repeat (first | (with_reducible first | exact HK.out | apply KeepBut.set_ | apply keep_drewN | apply keep_drew | apply keep_alloc | refine keep_far ?_ GW108001.out _) | exact HK.out)) hk (.inl rfl)); replace HB := Aside0.mk (hb); replace HI0 := Aside0.mk (hi); (try clear hb); (try clear hb2); (try clear hk); (try clear hi)))
    go_ret
    exact ⟨by first | rfl | (simp [errW_none, errW_some] <;> rfl) | (simp only [← hji25]; first | rfl | (simp [errW_none, errW_some] <;> rfl)) | (simp [*, errW_none, errW_some] <;> rfl), pIIsS141 HI0, hbIsS141, by repeat (first | (with_reducible first | exact HK.out | apply KeepBut.set_ | apply keep_drewN | apply keep_drew | apply keep_alloc | refine keep_far ?_ GW108001.out _) | exact HK.out)⟩
def spec_l01Cur_span.j0 : Nat → Int → Int → Bool → List Int → Int → Int → Option (Int × Int × Int × Int)
 | 0, _, _, _, _, _, _ => none
 | k + 1, x6, x7, x21, x1000, x1001, x1002 => if x21 = true then (some (x7, x6, x1001, x1002)) else (some (x6, x7, x1001, x1002))
def spec_l01Cur_span.f (k : Nat) (s0_0 : List Int) (s0_1 : Int) (s0_2 : Int) (l1_0 : List (S125)) : Option (Int × Int × Int × Int) := (spec_l01Cur_cutOf.f k s0_0 s0_1 s0_2 l1_0).bind fun bt116002 => ((spec_l01Cur_cutOf.f k s0_0 bt116002.2.1 bt116002.2.2 l1_0).bind fun bt116005 => (if bt116002.1 > bt116005.1 then ((spec_l01Cur_once.f s0_0 bt116005.2.1 bt116005.2.2 9).bind fun bt116008 => (spec_l01Cur_span.j0 k bt116002.1 bt116005.1 (!bt116008.1) s0_0 bt116008.2.1 bt116008.2.2)) else (spec_l01Cur_span.j0 k bt116002.1 bt116005.1 false s0_0 bt116005.2.1 bt116005.2.2)))
theorem spec_l01Cur_span.mono_l : ∀ k, (∀ y0 y1 y2 y3 y4 y5, LeO (spec_l01Cur_span.j0 k y0 y1 y2 y3 y4 y5) (spec_l01Cur_span.j0 (k + 1) y0 y1 y2 y3 y4 y5))
 | 0 => fun _ _ _ _ _ _ r h => by simp [spec_l01Cur_span.j0] at h
 | k + 1 => by
  have ih0 := spec_l01Cur_span.mono_l k
  ·intro y0 y1 y2 y3 y4 y5
   unfold spec_l01Cur_span.j0
   repeat' first
   | (with_reducible exact ih0 _ _ _ _ _ _)
   | (with_reducible exact spec_l01Cur_cutOf.mono _ _ _ _ _)
   | (with_reducible exact LeO.refl _)
   | (with_reducible exact LeO.none _)
   | (with_reducible refine LeO.ite ?_ ?_)
   | (with_reducible refine LeO.bind ?_ (fun _ => ?_))
   | exact ih0 _ _ _ _ _ _
   | exact spec_l01Cur_cutOf.mono _ _ _ _ _
   | exact LeO.none _
   | refine LeO.ite ?_ ?_
   | refine LeO.bind ?_ (fun _ => ?_)
theorem spec_l01Cur_span.mono : ∀ a0 a1 a2 a3 k, LeO (spec_l01Cur_span.f k a0 a1 a2 a3) (spec_l01Cur_span.f (k + 1) a0 a1 a2 a3) := by
 intro a0 a1 a2 a3 k
 have ih0 := spec_l01Cur_span.mono_l k
 unfold spec_l01Cur_span.f
 repeat' first
   | (with_reducible exact ih0 _ _ _ _ _ _)
   | (with_reducible exact spec_l01Cur_cutOf.mono _ _ _ _ _)
   | (with_reducible exact LeO.refl _)
   | (with_reducible exact LeO.none _)
   | (with_reducible refine LeO.ite ?_ ?_)
   | (with_reducible refine LeO.bind ?_ (fun _ => ?_))
   | exact ih0 _ _ _ _ _ _
   | exact spec_l01Cur_cutOf.mono _ _ _ _ _
   | exact LeO.none _
   | refine LeO.ite ?_ ?_
   | refine LeO.bind ?_ (fun _ => ?_)
set_option maxHeartbeats 8000000 in
set_option maxRecDepth 100000 in
theorem spec_l01Cur_span.calls (k : Nat) (g : Nat) (s0_0 : List Int) (s0_1 : Int) (s0_2 : Int) (A1_0 : Option Addr) (c1_0 : Nat) (l1_0 : List (S125)) (r1 : Int) (r2 : Int) (r3 : Int) (r4 : Int) (w0 w : World) (hI : IsS141 w0 w g s0_0 s0_1 s0_2) (hB : Below w0.heap.size w0 w) (hr1_0 : ∀ W_, KeepBut w W_ g none → Kd.C k125 W_ A1_0 l1_0.length l1_0) (hc1_0 : l1_0.length ≤ c1_0) (h : spec_l01Cur_span.f k s0_0 s0_1 s0_2 l1_0 = some (r1, r2, r3, r4)) :
  Calls Tryd.prog 115 #[.pointer (some ⟨g, 0, none⟩), .agg #[.slice A1_0 l1_0.length c1_0]] w fun e w' => e = .returned (.tuple #[.int .i64 r1, .int .i64 r2]) ∧ IsS141 w0 w' g s0_0 r3 r4 ∧ Below w0.heap.size w0 w' ∧ KeepBut w w' g none := by
 have hu71 := Tryd.underlying71
 have HR1_0 := Aside0.mk hr1_0
 have HC1_0 := Aside0.mk hc1_0
 clear hr1_0 hc1_0
 have HI0 := Aside0.mk hI
 have HK := Aside0.mk (KeepBut.refl w g none)
 have HL := Aside0.mk hB.size
 clear hI
 have HW0 := Aside0.mk hB.size
 have HB := Aside0.mk hB
 clear hB
 have H : ((spec_l01Cur_cutOf.f k s0_0 s0_1 s0_2 l1_0).bind fun bt116002 => ((spec_l01Cur_cutOf.f k s0_0 bt116002.2.1 bt116002.2.2 l1_0).bind fun bt116005 => (if bt116002.1 > bt116005.1 then ((spec_l01Cur_once.f s0_0 bt116005.2.1 bt116005.2.2 9).bind fun bt116008 => (spec_l01Cur_span.j0 k bt116002.1 bt116005.1 (!bt116008.1) s0_0 bt116008.2.1 bt116008.2.2)) else (spec_l01Cur_span.j0 k bt116002.1 bt116005.1 false s0_0 bt116005.2.1 bt116005.2.2)))) = some (r1, r2, r3, r4) := h
 clear h
 replace H := Option.bind_eq_some_iff.mp H
 obtain ⟨⟨t116002, t116003, t116004⟩, A30, H⟩ := H
 replace H : ((spec_l01Cur_cutOf.f k s0_0 t116003 t116004 l1_0).bind fun bt116005 => (if t116002 > bt116005.1 then ((spec_l01Cur_once.f s0_0 bt116005.2.1 bt116005.2.2 9).bind fun bt116008 => (spec_l01Cur_span.j0 k t116002 bt116005.1 (!bt116008.1) s0_0 bt116008.2.1 bt116008.2.2)) else (spec_l01Cur_span.j0 k t116002 bt116005.1 false s0_0 bt116005.2.1 bt116005.2.2))) = some (r1, r2, r3, r4) := H
 have A3 := Aside0.mk A30
 clear A30
 replace H := Option.bind_eq_some_iff.mp H
 obtain ⟨⟨t116005, t116006, t116007⟩, A40, H⟩ := H
 replace H : (if t116002 > t116005 then ((spec_l01Cur_once.f s0_0 t116006 t116007 9).bind fun bt116008 => (spec_l01Cur_span.j0 k t116002 t116005 (!bt116008.1) s0_0 bt116008.2.1 bt116008.2.2)) else (spec_l01Cur_span.j0 k t116002 t116005 false s0_0 t116006 t116007)) = some (r1, r2, r3, r4) := H
 have A4 := Aside0.mk A40
 clear A40
 have HC5 := Aside0.mk H
 clear H
 go_enter Tryd.func115, Tryd.ntmps115
 go_upto_region 3 with (first | ((with_reducible refine gate_dst (N := 3) rfl ?_); refine boxE 3 #[.slice A1_0 l1_0.length c1_0] 71 ?_; intro gb116001 hg w6 BK116001 hb; have GW116001 := Aside0.mk ((by rw [hg]; exact (keep_size (w := w) (g := g) (row := none) hkk) : w.heap.size ≤ gb116001)); have GE116001 := Aside0.mk ((Nat.le_trans HW0.out (by rw [hg]; exact (keep_size (w := w) (g := g) (row := none) hkk) : w.heap.size ≤ gb116001) : w0.heap.size ≤ gb116001)); have NB0_116001 := Aside0.mk ((by rw [hg]; exact Nat.ne_of_lt (IsS141.lt (show IsS141 w0 _ g s0_0 s0_1 s0_2 from pIIsS141 HI0)) : g ≠ gb116001)); have NB116001_0 := Aside0.mk ((by rw [hg]; exact Nat.ne_of_gt (IsS141.lt (show IsS141 w0 _ g s0_0 s0_1 s0_2 from pIIsS141 HI0)) : gb116001 ≠ g)); replace HK := Aside0.mk (KeepBut.trans hkk (KeepBut.of_below hb g none) (.inl rfl)); replace HB := Aside0.mk (below_step hbIsS141 hb); replace HI0 := Aside0.mk (IsS141.below (pIIsS141 HI0) hb); clear hb hg; have hnb7 := NB116001_0.out; have hnc7 := NB0_116001.out; have hcz8_0 : w6.cell? ⟨gb116001, 0, none⟩ = some (.slice A1_0 l1_0.length c1_0) := (blk_cell BK116001.out 0).trans rfl; have hfz8_0 := blk_frozen BK116001.out 0) | ((with_reducible refine gate_callee (f := 107) rfl ?_); refine goesM (some 10) Tryd.func107 #[.pointer (some ⟨g, 0, none⟩), .agg #[.slice A1_0 l1_0.length c1_0]] ?_; (with_reducible refine (spec_l01Cur_cutOf.calls k g s0_0 s0_1 s0_2 _ _ l1_0 t116002 t116003 t116004 w0 _ ?side1 ?side2 ?side3 ?side4 A3.out).mono ?_); (case side1 => exact pIIsS141 HI0); (case side2 => exact hbIsS141); (case side3 => exact Kd.C_foot_step HR1_0.out (by repeat (first | (with_reducible first | exact HK.out | apply KeepBut.set_ | apply keep_drewN | apply keep_drew | apply keep_alloc | refine keep_far ?_ GW116001.out _) | exact HK.out))); (case side4 => exact HC1_0.out); rintro e w9 ⟨rfl, hi, hb, hk⟩; refine ⟨_, rfl, ?_⟩; replace BK116001 := Aside0.mk (bkk hk BK116001 NB116001_0.out); replace HK := Aside0.mk (KeepBut.trans (by repeat (first | (with_reducible first | exact HK.out | apply KeepBut.set_ | apply keep_drewN | apply keep_drew | apply keep_alloc | refine keep_far ?_ GW116001.out _) | exact HK.out)) hk (.inl rfl)); replace HB := Aside0.mk (hb); replace HI0 := Aside0.mk (hi); (try clear hb); (try clear hb2); (try clear hk); (try clear hi); have hcz10_0 : w9.cell? ⟨gb116001, 0, none⟩ = some (.slice A1_0 l1_0.length c1_0) := (blk_cell BK116001.out 0).trans rfl; have hfz10_0 := blk_frozen BK116001.out 0) | ((with_reducible refine gate_callee (f := 107) rfl ?_); refine goesM (some 13) Tryd.func107 #[.pointer (some ⟨g, 0, none⟩), .agg #[.slice A1_0 l1_0.length c1_0]] ?_; (with_reducible refine (spec_l01Cur_cutOf.calls k g s0_0 t116003 t116004 _ _ l1_0 t116005 t116006 t116007 w0 _ ?side1 ?side2 ?side3 ?side4 A4.out).mono ?_); (case side1 => exact pIIsS141 HI0); (case side2 => exact hbIsS141); (case side3 => exact Kd.C_foot_step HR1_0.out (by repeat (first | (with_reducible first | exact HK.out | apply KeepBut.set_ | apply keep_drewN | apply keep_drew | apply keep_alloc | refine keep_far ?_ GW116001.out _) | exact HK.out))); (case side4 => exact HC1_0.out); rintro e w11 ⟨rfl, hi, hb, hk⟩; refine ⟨_, rfl, ?_⟩; replace BK116001 := Aside0.mk (bkk hk BK116001 NB116001_0.out); replace HK := Aside0.mk (KeepBut.trans (by repeat (first | (with_reducible first | exact HK.out | apply KeepBut.set_ | apply keep_drewN | apply keep_drew | apply keep_alloc | refine keep_far ?_ GW116001.out _) | exact HK.out)) hk (.inl rfl)); replace HB := Aside0.mk (hb); replace HI0 := Aside0.mk (hi); (try clear hb); (try clear hb2); (try clear hk); (try clear hi)))
 (try simp only [Act.put, List.setIfInBounds_toArray, List.set_cons_zero, List.set_cons_succ])
 go_cut [21] (fun v21 wc => ∃ (kq : Nat) (x21_4 : Bool) (x1001_4 : Int) (x1002_4 : Int), v21 = .bool x21_4 ∧ Aside0 (spec_l01Cur_span.j0 kq t116002 t116005 x21_4 s0_0 x1001_4 x1002_4 = some (r1, r2, r3, r4)) ∧ Aside0 (kq ≤ k) ∧ Aside0 (wc.heap[gb116001]? = some (.cells #[(.slice A1_0 l1_0.length c1_0)] 71 (0, 0))) ∧ Aside0 (IsS141 w0 wc g s0_0 x1001_4 x1002_4) ∧ Aside0 (KeepBut w wc g none) ∧ Aside0 (Below w0.heap.size w0 wc))
 case first =>
  have H := HC5.out
  clear HC5
  by_cases c12 : t116002 > t116005
  ·rw [if_pos c12] at H
   have c12b0 : decide (t116005 < t116002) = true := decide_eq_true c12
   clear c12
   (first | rw [c12b0] | (simp only [i64_w, i32_w]; rw [c12b0]) | skip)
   replace H := Option.bind_eq_some_iff.mp H
   obtain ⟨⟨t116008, t116009, t116010⟩, A130, H⟩ := H
   replace H : (spec_l01Cur_span.j0 k t116002 t116005 (!t116008) s0_0 t116009 t116010) = some (r1, r2, r3, r4) := H
   have A13 := Aside0.mk A130
   clear A130
   have H' := Aside0.mk H
   clear H
   go_wp2_with (first | (go_at_call 70; (with_reducible refine (spec_l01Cur_once.calls g s0_0 t116006 t116007 9 t116008 t116009 t116010 w0 _ ?side1 ?side2 A13.out).mono ?_); (case side1 => exact pIIsS141 HI0); (case side2 => exact hbIsS141); rintro e w14 ⟨rfl, hi, hb, hk⟩; replace BK116001 := Aside0.mk (bkk hk BK116001 NB116001_0.out); replace HK := Aside0.mk (KeepBut.trans (by repeat (first | (with_reducible first | exact HK.out | apply KeepBut.set_ | apply keep_drewN | apply keep_drew | apply keep_alloc | refine keep_far ?_ GW116001.out _) | exact HK.out)) hk (.inl rfl)); replace HB := Aside0.mk (hb); replace HI0 := Aside0.mk (hi); (try clear hb); (try clear hb2); (try clear hk); (try clear hi)))
   go_meet
   case rel => exact ⟨_, (!t116008), (t116009), (t116010), rfs, H', ⟨by first | omega | exact Nat.le_refl _⟩, ⟨by refine pB ?_; exact BK116001.out⟩, ⟨pIIsS141 HI0⟩, ⟨by repeat (first | (with_reducible first | exact HK.out | apply KeepBut.set_ | apply keep_drewN | apply keep_drew | apply keep_alloc | refine keep_far ?_ GW116001.out _) | exact HK.out)⟩, ⟨hbIsS141⟩⟩
  ·rw [if_neg c12] at H
   have c12b0 : decide (t116005 < t116002) = false := decide_eq_false c12
   clear c12
   (first | rw [c12b0] | (simp only [i64_w, i32_w]; rw [c12b0]) | skip)
   have H' := Aside0.mk H
   clear H
   go_wp2
   go_meet
   case rel => exact ⟨_, (false), (t116006), (t116007), rfs, H', ⟨by first | omega | exact Nat.le_refl _⟩, ⟨by refine pB ?_; exact BK116001.out⟩, ⟨pIIsS141 HI0⟩, ⟨by repeat (first | (with_reducible first | exact HK.out | apply KeepBut.set_ | apply keep_drewN | apply keep_drew | apply keep_alloc | refine keep_far ?_ GW116001.out _) | exact HK.out)⟩, ⟨hbIsS141⟩⟩
 case rest =>
  clear HC5
  try clear c1
  try clear p2
  try clear c7
  try clear c10
  try clear c11
  try clear c12
  try clear c12b0
  try clear hcz10_0
  try clear hcz8_0
  try clear hfz10_0
  try clear hfz8_0
  obtain ⟨kq, x21_4, x1001_4, x1002_4, rfl, HA, HJ4, BK116001, HI0, HK, HB⟩ := hcut
  cases kq with
  | zero => exact absurd HA.out (by simp [spec_l01Cur_span.j0])
  | succ kj4 =>
   have H := HA.out
   clear HA
   simp only [spec_l01Cur_span.j0] at H
   by_cases c15 : x21_4 = true
   ·subst c15
    have H1 : (some (t116005, t116002, x1001_4, x1002_4)) = some (r1, r2, r3, r4) := by rw [if_pos rfl] at H; exact H
    clear H
    have H := H1
    clear H1
    simp only [Option.some.injEq, Prod.mk.injEq] at H
    obtain ⟨rfl, rfl, rfl, rfl⟩ := H
    go_wp2
    go_ret2
    exact ⟨erf, pIIsS141 HI0, hbIsS141, by repeat (first | (with_reducible first | exact HK.out | apply KeepBut.set_ | apply keep_drewN | apply keep_drew | apply keep_alloc | refine keep_far ?_ GW116001.out _) | exact HK.out)⟩
   ·replace c15 := Bool.eq_false_iff.mpr c15
    subst c15
    have H1 : (some (t116002, t116005, x1001_4, x1002_4)) = some (r1, r2, r3, r4) := by rw [if_neg (show ¬ (false = true) by decide)] at H; exact H
    clear H
    have H := H1
    clear H1
    simp only [Option.some.injEq, Prod.mk.injEq] at H
    obtain ⟨rfl, rfl, rfl, rfl⟩ := H
    go_wp2
    go_ret2
    exact ⟨erf, pIIsS141 HI0, hbIsS141, by repeat (first | (with_reducible first | exact HK.out | apply KeepBut.set_ | apply keep_drewN | apply keep_drew | apply keep_alloc | refine keep_far ?_ GW116001.out _) | exact HK.out)⟩
mutual
def spec_ChunksOf.l0 : Nat → List Int → List (S125) → Int → Option ((List (S125)))
 | 0, _, _, _ => none
 | k + 1, x0, x3, x4 => if x4 < (x0.length : Int) then (spec_ChunksOf.l1 k x0 x3 x4 x4) else (some x3)
def spec_ChunksOf.j2 : Nat → List Int → List (S125) → Int → Int → Option ((List (S125)))
 | 0, _, _, _, _ => none
 | k + 1, x0, x3, x4, x5 => (some (([] : List Int) : List Int)).bind fun y99007 => (if 0 ≤ x4 then (if x4 ≤ x5 then (if x5 ≤ (x0.length : Int) then (if y99007.length + ((x0.take (x5 : Int).toNat).drop (x4 : Int).toNat).length < 140737488355328 then (if x3.length < 5864062014805 then (spec_ChunksOf.l0 k x0 (x3 ++ [(⟨(y99007 ++ ((x0.take (x5 : Int).toNat).drop (x4 : Int).toNat))⟩ : S125)]) x5) else (none)) else (none)) else (none)) else (none)) else (none))
def spec_ChunksOf.l1 : Nat → List Int → List (S125) → Int → Int → Option ((List (S125)))
 | 0, _, _, _, _ => none
 | k + 1, x0, x3, x4, x5 => if x5 < (x0.length : Int) then ((spec_RuneSize.f k x0 x5).bind fun t99005 => (if (wrap64 ((wrap64 (x5 + t99005)) - x4)) ≤ 16 then ((spec_RuneSize.f k x0 x5).bind fun t99006 => (spec_ChunksOf.l1 k x0 x3 x4 (wrap64 (x5 + t99006)))) else (spec_ChunksOf.j2 k x0 x3 x4 x5))) else (spec_ChunksOf.j2 k x0 x3 x4 x5)
end
def spec_ChunksOf.f (k : Nat) (l0 : List Int) : Option ((List (S125))) := (spec_TextOk.f k l0).bind fun t99001 => (if t99001 = true then (spec_ChunksOf.l0 k l0 (([] : List (S125))) 0) else (some ([] : List (S125))))
theorem spec_ChunksOf.mono_l : ∀ k, (∀ y0 y1 y2, LeO (spec_ChunksOf.l0 k y0 y1 y2) (spec_ChunksOf.l0 (k + 1) y0 y1 y2)) ∧ (∀ y0 y1 y2 y3, LeO (spec_ChunksOf.j2 k y0 y1 y2 y3) (spec_ChunksOf.j2 (k + 1) y0 y1 y2 y3)) ∧ (∀ y0 y1 y2 y3, LeO (spec_ChunksOf.l1 k y0 y1 y2 y3) (spec_ChunksOf.l1 (k + 1) y0 y1 y2 y3))
 | 0 => ⟨fun _ _ _ r h => by simp [spec_ChunksOf.l0] at h, fun _ _ _ _ r h => by simp [spec_ChunksOf.j2] at h, fun _ _ _ _ r h => by simp [spec_ChunksOf.l1] at h⟩
 | k + 1 => by
  obtain ⟨ih0, ih1, ih2⟩ := spec_ChunksOf.mono_l k
  refine ⟨fun y0 y1 y2 => ?_, fun y0 y1 y2 y3 => ?_, fun y0 y1 y2 y3 => ?_⟩
  all_goals first | unfold spec_ChunksOf.l0 | unfold spec_ChunksOf.j2 | unfold spec_ChunksOf.l1
  all_goals repeat' first
  | (with_reducible exact ih0 _ _ _)
  | (with_reducible exact ih1 _ _ _ _)
  | (with_reducible exact ih2 _ _ _ _)
  | (with_reducible exact spec_RuneSize.mono _ _ _)
  | (with_reducible exact spec_TextOk.mono _ _)
  | (with_reducible exact LeO.refl _)
  | (with_reducible exact LeO.none _)
  | (with_reducible refine LeO.ite ?_ ?_)
  | (with_reducible refine LeO.bind ?_ (fun _ => ?_))
  | exact ih0 _ _ _
  | exact ih1 _ _ _ _
  | exact ih2 _ _ _ _
  | exact spec_RuneSize.mono _ _ _
  | exact spec_TextOk.mono _ _
  | exact LeO.none _
  | refine LeO.ite ?_ ?_
  | refine LeO.bind ?_ (fun _ => ?_)
theorem spec_ChunksOf.mono : ∀ a0 k, LeO (spec_ChunksOf.f k a0) (spec_ChunksOf.f (k + 1) a0) := by
 intro a0 k
 obtain ⟨ih0, ih1, ih2⟩ := spec_ChunksOf.mono_l k
 unfold spec_ChunksOf.f
 repeat' first
   | (with_reducible exact ih0 _ _ _)
   | (with_reducible exact ih1 _ _ _ _)
   | (with_reducible exact ih2 _ _ _ _)
   | (with_reducible exact spec_RuneSize.mono _ _ _)
   | (with_reducible exact spec_TextOk.mono _ _)
   | (with_reducible exact LeO.refl _)
   | (with_reducible exact LeO.none _)
   | (with_reducible refine LeO.ite ?_ ?_)
   | (with_reducible refine LeO.bind ?_ (fun _ => ?_))
   | exact ih0 _ _ _
   | exact ih1 _ _ _ _
   | exact ih2 _ _ _ _
   | exact spec_RuneSize.mono _ _ _
   | exact spec_TextOk.mono _ _
   | exact LeO.none _
   | refine LeO.ite ?_ ?_
   | refine LeO.bind ?_ (fun _ => ?_)
set_option maxHeartbeats 8000000 in
set_option maxRecDepth 100000 in
theorem spec_ChunksOf.calls (k : Nat) (A0 : Option Addr) (c0 : Nat) (l0 : List Int) (r : List (S125)) (w : World) (hr0 : Kd.C (Kd.int .u8) w A0 l0.length l0) (hc0 : l0.length ≤ c0) (h : spec_ChunksOf.f k l0 = some r) :
  Calls Tryd.prog 98 #[.slice A0 l0.length c0] w fun e w' => ∃ v0_ : Value, e = .returned (v0_) ∧ Kd.S k125 125 w' w.heap.size (fun _ => True) v0_ r ∧ Below w.heap.size w w' := by
 have hu125 := Tryd.underlying125
 have HR0 := Aside0.mk hr0
 have HC0 := Aside0.mk hc0
 clear hr0 hc0
 have HB := Aside0.mk (Below.refl w.heap.size w)
 have H : ((spec_TextOk.f k l0).bind fun t99001 => (if t99001 = true then (spec_ChunksOf.l0 k l0 (([] : List (S125))) 0) else (some ([] : List (S125))))) = some r := h
 clear h
 replace H := Option.bind_eq_some_iff.mp H
 obtain ⟨t99001, A20, H⟩ := H
 replace H : (if t99001 = true then (spec_ChunksOf.l0 k l0 (([] : List (S125))) 0) else (some ([] : List (S125)))) = some r := H
 have A2 := Aside0.mk A20
 clear A20
 by_cases c3 : t99001 = true
 ·subst c3
  have H1 : (spec_ChunksOf.l0 k l0 (([] : List (S125))) 0) = some r := by rw [if_pos rfl] at H; exact H
  clear H
  have H := H1
  clear H1
  obtain ⟨y99002, hy99002⟩ : ∃ y_ : List (S125), y_ = (([] : List (S125))) := ⟨_, rfl⟩
  replace H : (spec_ChunksOf.l0 k l0 y99002 0) = some r := repH hy99002 H
  have Ny99002 := Aside0.mk hy99002
  clear hy99002
  have H' := Aside0.mk H
  clear H
  go_enter Tryd.func98, Tryd.ntmps98
  go_wp2_with (first | ((with_reducible refine gate_callee (f := 74) rfl ?_); refine goesM (some 7) Tryd.func74 #[.slice A0 l0.length c0] ?_; (with_reducible refine (spec_TextOk.calls k _ _ l0 true _ ?side1 ?side2 A2.out).mono ?_); (case side1 => exact cpl HR0.out); (case side2 => exact HC0.out); rintro e w4 ⟨rfl, hb⟩; refine ⟨_, rfl, ?_⟩; replace HB := Aside0.mk (below_step hbw hb); (try clear hb); (try clear hb2); (try clear hk); (try clear hi)) | ((with_reducible refine gate_dst (N := 9) rfl ?_); refine Kd.S_lit k125 _ 125 ?hg (N := 9) ?hd (xs := ([] : List (S125))) (inner := []) (ok := fun _ => True) (okp := fun _ => True) ?hr ?hp (fun _ hk => hk) trivial (Below.refl _ _) (Nat.le_refl _) (by simp) ?_; (case hd => rfl); (case hg => rfl); (case hr => first | (go_simp; done) | (go_simp; rfl)); (case hp => exact (Reps.none _ _)); intro v99003 w5 ho6 hb hg_ hnew_; clear hg_ hnew_; (first | rw [← Ny99002.out] at ho6 | (simp only [Int.reduceToNat] at ho6; rw [← Ny99002.out] at ho6)); have HO99004 := Aside0.mk (Kd.S_lower ho6 (below_size hbw)); replace HB := Aside0.mk (below_step hbw hb); clear hb ho6))
  go_loopg [3, 4] k (fun kq v3 v4 w' => ∃ (x3_1 : List (S125)) (x4_1 : Int), v4 = .int .i64 x4_1 ∧ Aside0 (spec_ChunksOf.l0 kq l0 x3_1 x4_1 = some r) ∧ Aside0 (kq ≤ k) ∧ Aside0 (Kd.S k125 125 w' w.heap.size (fun _ => True) v3 x3_1) ∧ Aside0 (Below w.heap.size w w'))
  case atStart => exact ⟨(y99002), (0), rfs, H', ⟨Nat.le_refl _⟩, ⟨(hrnS HO99004)⟩, ⟨hbw⟩⟩
  case round =>
   clear H'
   try clear p2
   try clear c3
   obtain ⟨x3_1, x4_1, rfl, HA, HK1, HO_3, HB⟩ := hrel
   cases gk with
   | zero => exact absurd HA.out (by simp [spec_ChunksOf.l0])
   | succ k1 =>
    have H := HA.out
    clear HA
    simp only [spec_ChunksOf.l0] at H
    by_cases c7 : x4_1 < (l0.length : Int)
    ·rw [if_pos c7] at H
     have c7b0 : decide (x4_1 < (l0.length : Int)) = true := decide_eq_true c7
     clear c7
     have HC8 := Aside0.mk H
     clear H
     go_upto_block 2 with (fail)
     go_cut [5] (fun v5 wc => ∃ (kq : Nat) (x5_7 : Int), v5 = .int .i64 x5_7 ∧ Aside0 (spec_ChunksOf.j2 kq l0 x3_1 x4_1 x5_7 = some r) ∧ Aside0 (kq ≤ k1) ∧ Aside0 (Kd.S k125 125 wc w.heap.size (fun _ => True) u3 x3_1) ∧ Aside0 (Below w.heap.size w wc))
     case first =>
      have H := HC8.out
      clear HC8
      have H' := Aside0.mk H
      clear H
      go_wp2
      go_loopg [5] k1 (fun kq v5 w' => ∃ (x5_2 : Int), v5 = .int .i64 x5_2 ∧ Aside0 (spec_ChunksOf.l1 kq l0 x3_1 x4_1 x5_2 = some r) ∧ Aside0 (kq ≤ k1) ∧ Aside0 (Kd.S k125 125 w' w.heap.size (fun _ => True) u3 x3_1) ∧ Aside0 (Below w.heap.size w w'))
      case atStart => exact ⟨(x4_1), rfs, H', ⟨Nat.le_refl _⟩, ⟨(hrnS HO_3)⟩, ⟨hbw⟩⟩
      case round =>
       clear H'
       try clear p2
       try clear c3
       try clear c7
       try clear c7b0
       try clear p2
       obtain ⟨x5_2, rfl, HA, HK2, HO_3, HB⟩ := hrel
       cases gk with
       | zero => exact absurd HA.out (by simp [spec_ChunksOf.l1])
       | succ k2 =>
        have H := HA.out
        clear HA
        simp only [spec_ChunksOf.l1] at H
        by_cases c9 : x5_2 < (l0.length : Int)
        ·rw [if_pos c9] at H
         have c9b0 : decide (x5_2 < (l0.length : Int)) = true := decide_eq_true c9
         clear c9
         (first | rw [c9b0] | (simp only [i64_w, i32_w]; rw [c9b0]) | skip)
         replace H := Option.bind_eq_some_iff.mp H
         obtain ⟨t99005, A100, H⟩ := H
         replace H : (if (wrap64 ((wrap64 (x5_2 + t99005)) - x4_1)) ≤ 16 then ((spec_RuneSize.f k2 l0 x5_2).bind fun t99006 => (spec_ChunksOf.l1 k2 l0 x3_1 x4_1 (wrap64 (x5_2 + t99006)))) else (spec_ChunksOf.j2 k2 l0 x3_1 x4_1 x5_2)) = some r := H
         have A10 := Aside0.mk A100
         clear A100
         by_cases c11 : (wrap64 ((wrap64 (x5_2 + t99005)) - x4_1)) ≤ 16
         ·rw [if_pos c11] at H
          have c11b0 : decide ((wrap64 ((wrap64 (x5_2 + t99005)) - x4_1)) ≤ 16) = true := decide_eq_true c11
          clear c11
          replace H := Option.bind_eq_some_iff.mp H
          obtain ⟨t99006, A120, H⟩ := H
          replace H : (spec_ChunksOf.l1 k2 l0 x3_1 x4_1 (wrap64 (x5_2 + t99006))) = some r := H
          have A12 := Aside0.mk A120
          clear A120
          have H' := Aside0.mk H
          clear H
          go_wp2_with (first | (go_at_call 125; (with_reducible refine (spec_RuneSize.calls k2 _ _ l0 x5_2 t99005 _ ?side1 ?side2 A10.out).mono ?_); (case side1 => exact cpl (Kd.C_below HR0.out HB.out)); (case side2 => exact HC0.out); rintro e w13 ⟨rfl, hb⟩; replace HO_3 := Aside0.mk (Kd.S_below (hrnS HO_3) hb); replace HB := Aside0.mk (below_step hbw hb); (try clear hb); (try clear hb2); (try clear hk); (try clear hi)) | ((with_reducible refine gate_callee (f := 125) rfl ?_); refine goesM (some 32) Tryd.func125 #[.slice A0 l0.length c0, .int .i64 x5_2] ?_; (with_reducible refine (spec_RuneSize.calls k2 _ _ l0 x5_2 t99006 _ ?side1 ?side2 A12.out).mono ?_); (case side1 => exact cpl (Kd.C_below HR0.out HB.out)); (case side2 => exact HC0.out); rintro e w14 ⟨rfl, hb⟩; refine ⟨_, rfl, ?_⟩; replace HO_3 := Aside0.mk (Kd.S_below (hrnS HO_3) hb); replace HB := Aside0.mk (below_step hbw hb); (try clear hb); (try clear hb2); (try clear hk); (try clear hi)))
          go_roundg k2
          case measure => have := HK1.out; have := HK2.out; omega
          case rel => exact ⟨(wrap64 (x5_2 + t99006)), rfs, H', ⟨by have := HK1.out; have := HK2.out; omega⟩, ⟨(hrnS HO_3)⟩, ⟨hbw⟩⟩
         ·rw [if_neg c11] at H
          have c11b0 : decide ((wrap64 ((wrap64 (x5_2 + t99005)) - x4_1)) ≤ 16) = false := decide_eq_false c11
          clear c11
          have H' := Aside0.mk H
          clear H
          go_wp2_with (first | (go_at_call 125; (with_reducible refine (spec_RuneSize.calls k2 _ _ l0 x5_2 t99005 _ ?side1 ?side2 A10.out).mono ?_); (case side1 => exact cpl (Kd.C_below HR0.out HB.out)); (case side2 => exact HC0.out); rintro e w15 ⟨rfl, hb⟩; replace HO_3 := Aside0.mk (Kd.S_below (hrnS HO_3) hb); replace HB := Aside0.mk (below_step hbw hb); (try clear hb); (try clear hb2); (try clear hk); (try clear hi)))
          go_meet
          case rel => exact ⟨_, (x5_2), rfs, H', ⟨by have := HK1.out; have := HK2.out; first | omega | exact Nat.le_refl _⟩, ⟨(hrnS HO_3)⟩, ⟨hbw⟩⟩
        ·rw [if_neg c9] at H
         have c9b0 : decide (x5_2 < (l0.length : Int)) = false := decide_eq_false c9
         clear c9
         (first | rw [c9b0] | (simp only [i64_w, i32_w]; rw [c9b0]) | skip)
         have H' := Aside0.mk H
         clear H
         go_wp2
         go_meet
         case rel => exact ⟨_, (x5_2), rfs, H', ⟨by have := HK1.out; have := HK2.out; first | omega | exact Nat.le_refl _⟩, ⟨(hrnS HO_3)⟩, ⟨hbw⟩⟩
     case rest =>
      clear HC8
      try clear c1
      try clear p2
      try clear c3
      try clear p6
      try clear c7
      try clear c7b0
      try clear c9
      try clear c9b0
      try clear c11
      try clear c11b0
      try clear c12
      try clear p2
      obtain ⟨kq, x5_7, rfl, HA, HJ7, HO_3, HB⟩ := hcut
      cases kq with
      | zero => exact absurd HA.out (by simp [spec_ChunksOf.j2])
      | succ kj7 =>
       have H := HA.out
       clear HA
       simp only [spec_ChunksOf.j2] at H
       obtain ⟨y99007, hy99007⟩ : ∃ y_ : List Int, y_ = (([] : List Int)) := ⟨_, rfl⟩
       replace H : (if 0 ≤ x4_1 then (if x4_1 ≤ x5_7 then (if x5_7 ≤ (l0.length : Int) then (if y99007.length + ((l0.take (x5_7 : Int).toNat).drop (x4_1 : Int).toNat).length < 140737488355328 then (if x3_1.length < 5864062014805 then (spec_ChunksOf.l0 kj7 l0 (x3_1 ++ [(⟨(y99007 ++ ((l0.take (x5_7 : Int).toNat).drop (x4_1 : Int).toNat))⟩ : S125)]) x5_7) else (none)) else (none)) else (none)) else (none)) else (none)) = some r := repH hy99007 H
       have Ny99007 := Aside0.mk hy99007
       clear hy99007
       by_cases c16 : 0 ≤ x4_1
       ·rw [if_pos c16] at H
        have c16b0 := eq_true c16
        have c16b1 : decide (0 ≤ x4_1) = true := decide_eq_true c16
        clear c16
        by_cases c17 : x4_1 ≤ x5_7
        ·rw [if_pos c17] at H
         have c17b0 := eq_true c17
         have c17b1 : decide (x4_1 ≤ x5_7) = true := decide_eq_true c17
         clear c17
         by_cases c18 : x5_7 ≤ (l0.length : Int)
         ·rw [if_pos c18] at H
          have c18b0 := eq_true c18
          have c18b1 : decide (x5_7 ≤ (l0.length : Int)) = true := decide_eq_true c18
          clear c18
          by_cases c19 : y99007.length + ((l0.take (x5_7 : Int).toNat).drop (x4_1 : Int).toNat).length < 140737488355328
          ·rw [if_pos c19] at H
           have LMc19 := Aside0.mk c19
           clear c19
           obtain ⟨y99011, hy99011⟩ : ∃ y_ : List Int, y_ = (y99007 ++ ((l0.take (x5_7 : Int).toNat).drop (x4_1 : Int).toNat)) := ⟨_, rfl⟩
           replace H : (if x3_1.length < 5864062014805 then (spec_ChunksOf.l0 kj7 l0 (x3_1 ++ [(⟨y99011⟩ : S125)]) x5_7) else (none)) = some r := repH hy99011 H
           have Ny99011 := Aside0.mk hy99011
           clear hy99011
           by_cases c20 : x3_1.length < 5864062014805
           ·rw [if_pos c20] at H
            have LMc20 := Aside0.mk c20
            clear c20
            obtain ⟨y99014, hy99014⟩ : ∃ y_ : List (S125), y_ = (x3_1 ++ [(⟨y99011⟩ : S125)]) := ⟨_, rfl⟩
            replace H : (spec_ChunksOf.l0 kj7 l0 y99014 x5_7) = some r := repH hy99014 H
            have Ny99014 := Aside0.mk hy99014
            clear hy99014
            have H' := Aside0.mk H
            clear H
            go_wp2_with (first | ((with_reducible refine gate_dst (N := 35) rfl ?_); refine Kd.R_lit (Kd.int .u8) _ 5 ?hg (N := 35) ?hd (xs := ([] : List Int)) (inner := []) (ok := fun _ => True) (okp := fun _ => True) ?hr ?hp (fun _ hk => hk) trivial (Below.refl _ _) (Nat.le_refl _) (by simp) ?_; (case hd => rfl); (case hg => rfl); (case hr => first | (go_simp; done) | (go_simp; rfl)); (case hp => exact (Reps.none _ _)); intro v99008 w21 ho22 hb hg_ hnew_; clear hg_ hnew_; (first | rw [← Ny99007.out] at ho22 | (simp only [Int.reduceToNat] at ho22; rw [← Ny99007.out] at ho22)); have HO99009 := Aside0.mk (Kd.R_lower ho22 (below_size hbw)); replace HO_3 := Aside0.mk (Kd.S_elder' (hrnS HO_3) (Kd.R_base ho22) hb); replace HB := Aside0.mk (below_step hbw hb); clear hb ho22; obtain ⟨i023, hi023, _, hsz23, _⟩ := info_parts info5; obtain ⟨A23, hcut23, hA23, hC23⟩ := print_mid_of (P := Tryd.prog) (Value.int .u8) 0 22 5 .i64 .i64 Tryd.underlying22 hi023 hsz23 A0 c0 l0 x4_1 x5_7 (odt) (by first | omega | exact odt) (odt) HC0.out; have HR99010 := Aside0.mk (Kd.C_of_reads (h1 := fun _ => rfl) (hA23 _ (Kd.reads_of_C HR0.out))); have HC99010 := Aside0.mk hC23; clear hA23 hC23 hi023 hsz23) | ((with_reducible refine gate_builtin (b := .append) (xs := #[.tmp 35, .tmp 39]) rfl ?_); at_builtin; refine Kd.R_append_rows (Kd.int .u8) (w0 := w) w.heap.size rfl (.tmp 35) (.tmp 39) 22 5 (.int .u8 0) 1 rfl Tryd.underlying22 info5 rfl (by decide) (by omega) v99008 y99007 ((l0.take (x5_7 : Int).toNat).drop (x4_1 : Int).toNat) _ _ _ (fun _ => True) (fun _ => False) rfl rfl ?aO ?aR (fun _ _ h => h) (fun _ h => h.elim) ?aF ?aB ?aS ?aL ?_; (case aR => first | (refine Eq.mp (congrArg (fun n_ => ReadsRow _ _ _ _ n_ _) (show ((l0.take (x5_7 : Int).toNat).drop (x4_1 : Int).toNat).length = (x5_7.toNat - x4_1.toNat) from (by rw [List.length_drop, List.length_take]; have h_ : (x5_7 : Int) ≤ (l0.length : Int) := odt; omega))) ?_; repeat (first | exact (Kd.C_below HR99010.out HB.out) | (with_reducible refine Kd.C_alloc ?_ _) | (with_reducible refine Kd.C_drewN ?_ _) | (with_reducible refine Kd.C_drew ?_))) | (repeat (first | exact (Kd.C_below HR99010.out HB.out) | (with_reducible refine Kd.C_alloc ?_ _) | (with_reducible refine Kd.C_drewN ?_ _) | (with_reducible refine Kd.C_drew ?_)))); (case aB => exact hbw); (case aF => exact (fun _ _ => trivial)); (case aO => exact (hrnR HO99009)); (case aS => exact (below_size hbw)); (case aL => have := LMc19.out; have hlx_ := (show ((l0.take (x5_7 : Int).toNat).drop (x4_1 : Int).toNat).length = (x5_7.toNat - x4_1.toNat) from (by rw [List.length_drop, List.length_take]; have h_ : (x5_7 : Int) ≤ (l0.length : Int) := odt; omega)); omega); intro v99012 w24 ho hb hg hat; rw [← Ny99011.out] at ho; have HO99013 := Aside0.mk (ho); replace HO_3 := Aside0.mk (Kd.S_after (ok := (fun _ => True)) (hrnS HO_3) hg hat); replace HB := Aside0.mk (hb); clear HO99009; clear ho hb hg hat; obtain ⟨Ao25, co25, eo25⟩ := Kd.R_slice HO99013.out; subst eo25) | ((with_reducible refine gate_builtin (b := .append) (xs := #[.tmp 34, .tmp 42]) rfl ?_); at_builtin; refine Kd.S_append k125 (w0 := w) w.heap.size rfl (.tmp 34) (.tmp 42) 69 125 (.agg #[(.slice none 0 0)]) 24 rfl Tryd.underlying69 info125 rfl (by decide) (by omega) u3 x3_1 (⟨y99011⟩ : S125) [.slice Ao25 y99011.length co25] (fun _ => True) (fun k_ => some k_ = (.slice Ao25 y99011.length co25 : Value).ownBlock) rfl rfl ?aP (fun k_ hk_ => ((Kd.R_mono (ok' := fun k_ => ((fun _ => True)) k_ ∧ some k_ ≠ (u3 : Value).ownBlock) (Kd.R_apart' (HO99013.out) (Kd.S_typed HO_3.out) (by decide)) (fun k_ hk => ⟨trivial, hk.2⟩))).1 k_ hk_.symm) ?aF ?aO ?aB ?aS ?aL ?_; (case aP => exact k125_mkM _ _ _ (⟨y99011⟩ : S125) (Kd.R_mono (Kd.R_tight rfl (Kd.R_mono (ok' := fun k_ => ((fun _ => True)) k_ ∧ some k_ ≠ (u3 : Value).ownBlock) (Kd.R_apart' (HO99013.out) (Kd.S_typed HO_3.out) (by decide)) (fun k_ hk => ⟨trivial, hk.2⟩))) (fun _ h_ => h_))); (case aB => exact hbw); (case aF => exact (fun _ _ => trivial)); (case aO => exact (by (with_reducible repeat (first | apply Kd.S_alloc | apply Kd.S_drewN | apply Kd.S_drew)); exact Kd.S_mono HO_3.out (fun k_ hk => ⟨trivial, fun e_ => hk.2 e_⟩))); (case aS => exact (below_size hbw)); (case aL => have := LMc20.out; omega); intro v99015 w26 ho hb hg hat; rw [← Ny99014.out] at ho; have HO99016 := Aside0.mk (ho); replace HB := Aside0.mk (hb); clear HO_3 HO99013; clear ho hb hg hat))
            go_roundg kj7
            case measure => have := HK1.out; have := HJ7.out; omega
            case rel => exact ⟨(y99014), (x5_7), rfs, H', ⟨by have := HK1.out; have := HJ7.out; omega⟩, ⟨(hrnS HO99016)⟩, ⟨hbw⟩⟩
           ·rw [if_neg c20] at H
            exact absurd H (by simp)
          ·rw [if_neg c19] at H
           exact absurd H (by simp)
         ·rw [if_neg c18] at H
          exact absurd H (by simp)
        ·rw [if_neg c17] at H
         exact absurd H (by simp)
       ·rw [if_neg c16] at H
        exact absurd H (by simp)
    ·rw [if_neg c7] at H
     have c7b0 : decide (x4_1 < (l0.length : Int)) = false := decide_eq_false c7
     clear c7
     obtain rfl := Option.some.inj H
     go_wp2
     go_ret
     exact ⟨_, erf, (hrnS HO_3), hbw⟩
 ·replace c3 := Bool.eq_false_iff.mpr c3
  subst c3
  have H1 : (some ([] : List (S125))) = some r := by rw [if_neg (show ¬ (false = true) by decide)] at H; exact H
  clear H
  have H := H1
  clear H1
  obtain rfl := Option.some.inj H
  go_enter Tryd.func98, Tryd.ntmps98
  go_wp2_with (first | ((with_reducible refine gate_callee (f := 74) rfl ?_); refine goesM (some 7) Tryd.func74 #[.slice A0 l0.length c0] ?_; (with_reducible refine (spec_TextOk.calls k _ _ l0 false _ ?side1 ?side2 A2.out).mono ?_); (case side1 => exact cpl HR0.out); (case side2 => exact HC0.out); rintro e w27 ⟨rfl, hb⟩; refine ⟨_, rfl, ?_⟩; replace HB := Aside0.mk (below_step hbw hb); (try clear hb); (try clear hb2); (try clear hk); (try clear hi)))
  go_ret
  exact ⟨_, erf, by first | exact Kd.S_nil _ _ _ _ _ | exact Kd.N_nil _ _ _ _ _ | exact Kd.V_nil _ _ _ _ _ | exact Kd.Q_nil _ _ _ _ _ | exact Kd.R_nil _ _ _ _ _, hbw⟩
end Go.Proofs.YteapbiiffcchbaaDoor.P
