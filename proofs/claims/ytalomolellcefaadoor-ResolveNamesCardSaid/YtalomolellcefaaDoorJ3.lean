/- What is proved here: steps on the way to the law (texts joined by a program: Q28, Vals, Draws, Q34, Symbols, Groups, Q29, Q30, Q31). -/
import Derived.Test.YtalomolellcefaaDoorJ1
import Derived.Test.YtalomolellcefaaDoorJ2
import Derived.OrdersHeld
import Derived.Deep.RegionHeld
import Derived.Tactics
import Derived.WalkKit
import Derived.IntWalk
import Derived.StringKeys
import Derived.Maps.Keyed
set_option linter.unusedSimpArgs false
set_option linter.unusedVariables false
namespace Go.Proofs.YtalomolellcefaaDoor.Q
open Go.RowKit Go.Proofs.YtalomolellcefaaDoorW.PrintWords Go.Proofs.YtalomolellcefaaDoorW.PrintLast Go.Proofs.YtalomolellcefaaDoorW.PrintMore
attribute [local go_sem] max2_int min2_int max_two min_two
mutual
def rela_Check.j0 : Nat → List (S72) → Int → Bool → Int → Int → Int → Int → Int → Option (Int)
 | 0,_,_,_,_,_,_,_,_ => none
 | k + 1,x1,x2,x18,x424000,x424001,x424002,x424003,x424004 => if x18 = true then (some 2) else (rela_Check.l0 k x1 x2 x1 (x1.length : Int) 0 x424000 x424001 x424002 x424003 x424004)
def rela_Check.l0 : Nat → List (S72) → Int → List (S72) → Int → Int → Int → Int → Int → Int → Int → Option (Int)
 | 0,_,_,_,_,_,_,_,_,_,_ => none
 | k + 1,x1,x2,x19,x20,x21,x424000,x424001,x424002,x424003,x424004 => if x21 < x20 then (if 0 ≤ x21 then (if x21 < (x19.length : Int) then ((sect_Check.f k ((rd_T72 x19 x21).f0) ((rd_T72 x19 x21).f1) ((rd_T72 x19 x21).f2) ((rd_T72 x19 x21).f3)).bind fun t426 => (if t426 = 0 then (rela_Check.l0 k x1 x2 x19 x20 (wrap64 (x21 + 1)) x424000 x424001 x424002 x424003 x424004) else (some t426))) else (none)) else (none)) else (if x424000 < 1 then (rela_Check.j2 k true) else (if x424000 > (x1.length : Int) then (rela_Check.j2 k true) else (if 0 ≤ (wrap64 (x424000 - 1)) then (if (wrap64 (x424000 - 1)) < (x1.length : Int) then ((rela_may.f k x424000 x424001 x424002 x424003 x424004 ((rd_T72 x1 (wrap64 (x424000 - 1))).f0) ((rd_T72 x1 (wrap64 (x424000 - 1))).f1) ((rd_T72 x1 (wrap64 (x424000 - 1))).f2) ((rd_T72 x1 (wrap64 (x424000 - 1))).f3) x2).bind fun t428 => (rela_Check.j2 k (!t428))) else (none)) else (none))))
def rela_Check.j2 : Nat → Bool → Option (Int)
 | 0,_ => none
 | k + 1,x52 => if x52 = true then (some 8) else (some 0)
end
def rela_Check.f (k : Nat) (a0_0 : Int) (a0_1 : Int) (a0_2 : Int) (a0_3 : Int) (a0_4 : Int) (l1 : List (S72)) (a2 : Int) : Option (Int) := if (l1.length : Int) > 16 then (some 4) else (if a2 < 0 then (rela_Check.j0 k l1 a2 true a0_0 a0_1 a0_2 a0_3 a0_4) else (rela_Check.j0 k l1 a2 (decide (a2 > 64)) a0_0 a0_1 a0_2 a0_3 a0_4))
theorem rela_Check.mono_l : ∀ k,(∀ y0 y1 y2 y3 y4 y5 y6 y7,LeO (rela_Check.j0 k y0 y1 y2 y3 y4 y5 y6 y7) (rela_Check.j0 (k + 1) y0 y1 y2 y3 y4 y5 y6 y7)) ∧ (∀ y0 y1 y2 y3 y4 y5 y6 y7 y8 y9,LeO (rela_Check.l0 k y0 y1 y2 y3 y4 y5 y6 y7 y8 y9) (rela_Check.l0 (k + 1) y0 y1 y2 y3 y4 y5 y6 y7 y8 y9)) ∧ (∀ y0,LeO (rela_Check.j2 k y0) (rela_Check.j2 (k + 1) y0))
 | 0 => ⟨fun _ _ _ _ _ _ _ _ r h => by simp [rela_Check.j0] at h,fun _ _ _ _ _ _ _ _ _ _ r h => by simp [rela_Check.l0] at h,fun _ r h => by simp [rela_Check.j2] at h⟩
 | k + 1 => by
  obtain ⟨ih0,ih1,ih2⟩ := rela_Check.mono_l k;refine ⟨?_, ?_, ?_⟩
  ·intro y0 y1 y2 y3 y4 y5 y6 y7
   unfold rela_Check.j0;repeat' first
   | (with_reducible exact ih0 _ _ _ _ _ _ _ _)
   | (with_reducible exact ih1 _ _ _ _ _ _ _ _ _ _)
   | (with_reducible exact ih2 _)
   | (with_reducible exact rela_may.mono _ _ _ _ _ _ _ _ _ _ _)
   | (with_reducible exact sect_Check.mono _ _ _ _ _)
   | (with_reducible exact LeO.refl _)
   | (with_reducible exact LeO.none _)
   | (with_reducible refine LeO.ite ?_ ?_)
   | (with_reducible refine LeO.bind ?_ (fun _ => ?_))
   | exact ih0 _ _ _ _ _ _ _ _
   | exact ih1 _ _ _ _ _ _ _ _ _ _
   | exact ih2 _
   | exact rela_may.mono _ _ _ _ _ _ _ _ _ _ _
   | exact sect_Check.mono _ _ _ _ _
   | exact LeO.none _
   | refine LeO.ite ?_ ?_
   | refine LeO.bind ?_ (fun _ => ?_)
  ·intro y0 y1 y2 y3 y4 y5 y6 y7 y8 y9
   unfold rela_Check.l0;repeat' first
   | (with_reducible exact ih0 _ _ _ _ _ _ _ _)
   | (with_reducible exact ih1 _ _ _ _ _ _ _ _ _ _)
   | (with_reducible exact ih2 _)
   | (with_reducible exact rela_may.mono _ _ _ _ _ _ _ _ _ _ _)
   | (with_reducible exact sect_Check.mono _ _ _ _ _)
   | (with_reducible exact LeO.refl _)
   | (with_reducible exact LeO.none _)
   | (with_reducible refine LeO.ite ?_ ?_)
   | (with_reducible refine LeO.bind ?_ (fun _ => ?_))
   | exact ih0 _ _ _ _ _ _ _ _
   | exact ih1 _ _ _ _ _ _ _ _ _ _
   | exact ih2 _
   | exact rela_may.mono _ _ _ _ _ _ _ _ _ _ _
   | exact sect_Check.mono _ _ _ _ _
   | exact LeO.none _
   | refine LeO.ite ?_ ?_
   | refine LeO.bind ?_ (fun _ => ?_)
  intro y0;unfold rela_Check.j2;repeat' first
  | (with_reducible exact ih0 _ _ _ _ _ _ _ _)
  | (with_reducible exact ih1 _ _ _ _ _ _ _ _ _ _)
  | (with_reducible exact ih2 _)
  | (with_reducible exact rela_may.mono _ _ _ _ _ _ _ _ _ _ _)
  | (with_reducible exact sect_Check.mono _ _ _ _ _)
  | (with_reducible exact LeO.refl _)
  | (with_reducible exact LeO.none _)
  | (with_reducible refine LeO.ite ?_ ?_)
  | (with_reducible refine LeO.bind ?_ (fun _ => ?_))
  | exact ih0 _ _ _ _ _ _ _ _
  | exact ih1 _ _ _ _ _ _ _ _ _ _
  | exact ih2 _
  | exact rela_may.mono _ _ _ _ _ _ _ _ _ _ _
  | exact sect_Check.mono _ _ _ _ _
  | exact LeO.none _
  | refine LeO.ite ?_ ?_
  | refine LeO.bind ?_ (fun _ => ?_)
theorem rela_Check.mono : ∀ a0 a1 a2 a3 a4 a5 a6 k,LeO (rela_Check.f k a0 a1 a2 a3 a4 a5 a6) (rela_Check.f (k + 1) a0 a1 a2 a3 a4 a5 a6) := by
 intro a0 a1 a2 a3 a4 a5 a6 k;obtain ⟨ih0,ih1,ih2⟩ := rela_Check.mono_l k;unfold rela_Check.f
 repeat' first
   | (with_reducible exact ih0 _ _ _ _ _ _ _ _)
   | (with_reducible exact ih1 _ _ _ _ _ _ _ _ _ _)
   | (with_reducible exact ih2 _)
   | (with_reducible exact rela_may.mono _ _ _ _ _ _ _ _ _ _ _)
   | (with_reducible exact sect_Check.mono _ _ _ _ _)
   | (with_reducible exact LeO.refl _)
   | (with_reducible exact LeO.none _)
   | (with_reducible refine LeO.ite ?_ ?_)
   | (with_reducible refine LeO.bind ?_ (fun _ => ?_))
   | exact ih0 _ _ _ _ _ _ _ _
   | exact ih1 _ _ _ _ _ _ _ _ _ _
   | exact ih2 _
   | exact rela_may.mono _ _ _ _ _ _ _ _ _ _ _
   | exact sect_Check.mono _ _ _ _ _
   | exact LeO.none _
   | refine LeO.ite ?_ ?_
   | refine LeO.bind ?_ (fun _ => ?_)
def rela_Check.T12 : Bool × List (List Nat × List Nat) := (true,[([],[]),([0],[0]),([1],[1]),([2],[2]),([3],[3]),([4,3],[3,4]),([3],[3]),([6,3],[3,6]),([5,7,3],[3,5,7]),([3,8],[3,8]),([9,3],[9]),([10],[10]),([10],[10]),([10],[10]),([13,10],[10,13]),([14,10],[10,14]),([12,15,10],[10,12,15]),([16,10],[10,16]),([10],[10]),([11,17,18,10,10],[10,11,17,18]),([19,10],[10,19]),([10,20],[10,20])])
def rela_Check.B12 : List Nat := [0,1,3,7,15,31,15,79,255,511,1023,2047,2047,2047,10239,26623,63487,129023,2047,524287,1048575,2097151]
theorem rela_Check.tab12 : rtab .any (opsOf Tryd.f46 12) = rela_Check.T12 := by kernel_rfl
theorem rela_Check.bits12 : waitsOk rela_Check.T12.2 rela_Check.B12 = true := by kernel_rfl
set_option maxHeartbeats 8000000 in
set_option maxRecDepth 100000 in
theorem rela_Check.calls (k : Nat) (a0_0 : Int) (a0_1 : Int) (a0_2 : Int) (a0_3 : Int) (a0_4 : Int) (A1 : Option Addr) (c1 : Nat) (l1 : List (S72)) (a2 : Int) (r : Int) (w : World) (hr1 : Kd.C k72 w A1 l1.length l1) (hc1 : l1.length ≤ c1) (h : rela_Check.f k a0_0 a0_1 a0_2 a0_3 a0_4 l1 a2 = some r) :
  Calls Tryd.prog 46 #[.agg #[.int .i64 a0_0, .int .i64 a0_1, .int .u8 a0_2, .int .i64 a0_3, .int .i64 a0_4], .slice A1 l1.length c1, .int .i64 a2] w fun e w' => e = .returned (.int .i64 r) ∧ Below w.heap.size w w' := by
 have hu94 := Tryd.underlying94;have hu72 := Tryd.underlying72;have HR1 := am0 hr1;have HC1 := am0 hc1;clear hr1 hc1;have HB := am0 (Below.refl w.heap.size w);have H : (if (l1.length : Int) > 16 then (some 4) else (if a2 < 0 then (rela_Check.j0 k l1 a2 true a0_0 a0_1 a0_2 a0_3 a0_4) else (rela_Check.j0 k l1 a2 (decide (a2 > 64)) a0_0 a0_1 a0_2 a0_3 a0_4))) = some r := h;clear h
 by_cases c4 : (l1.length : Int) > 16
 ·rw [if_pos c4] at H
  have c4b0 : decide (16 < (l1.length : Int)) = true := decide_eq_true c4;have c4b1 : decide (16 < l1.length) = true := decide_eq_true (by omega);clear c4;obtain rfl := Option.some.inj H;go_enter Tryd.func46,Tryd.ntmps46
  go_wp2_with (first | ((with_reducible refine gate_dst (N := 3) rfl ?_);(try (refine gate_guard (by rfl) ?_;dsimp only));refine box_event ?hg (N := 3) ?hd (cs := #[.int .i64 a0_0, .int .i64 a0_1, .int .u8 a0_2, .int .i64 a0_3, .int .i64 a0_4]) (t := 94) ?hr ?_;(case hd => rfl);(case hg => rfl);(case hr => first | (go_simp;done) | (go_simp;rfl));intro gb423 hg w5 hbox hb;have n0_ := am0 (below_step (by repeat (first | (with_reducible first | exact HB.out | apply below_alloc | apply pw_below_drewN | apply below_drew1) | exact HB.out)) hb);have n1_ := am0 (hbox);have n2_ := am0 ((by rw [hg];exact (below_size (by repeat (first | (with_reducible first | exact HB.out | apply below_alloc | apply pw_below_drewN | apply below_drew1) | exact HB.out))) : w.heap.size ≤ gb423));have n3_ := am0 ((by rw [hg];exact (below_size (by repeat (first | (with_reducible first | exact HB.out | apply below_alloc | apply pw_below_drewN | apply below_drew1) | exact HB.out))) : w.heap.size ≤ gb423));clear HB;have HB := n0_;have BK423 := n1_;have GW423 := n2_;have GE423 := n3_;clear n0_ n1_ n2_ n3_;clear hb hbox hg))
  go_ret
  exact ⟨by first | rfl | (simp [errW_none,errW_some] <;> rfl) | (simp [*,errW_none,errW_some] <;> rfl),by repeat (first | (with_reducible first | exact HB.out | apply below_alloc | apply pw_below_drewN | apply below_drew1 | refine below_set ?_ GE423.out) | exact HB.out)⟩
 rw [if_neg c4] at H;have c4b0 : decide (16 < (l1.length : Int)) = false := decide_eq_false c4;have c4b1 : decide (16 < l1.length) = false := decide_eq_false (by omega);clear c4;have HC6 := am0 H;clear H;go_enter Tryd.func46,Tryd.ntmps46
 go_upto_region 3 with (first | ((with_reducible refine gate_dst (N := 3) rfl ?_);(try (refine gate_guard (by rfl) ?_;dsimp only));refine box_event ?hg (N := 3) ?hd (cs := #[.int .i64 a0_0, .int .i64 a0_1, .int .u8 a0_2, .int .i64 a0_3, .int .i64 a0_4]) (t := 94) ?hr ?_;(case hd => rfl);(case hg => rfl);(case hr => first | (go_simp;done) | (go_simp;rfl));intro gb423 hg w7 hbox hb;have n0_ := am0 (below_step (by repeat (first | (with_reducible first | exact HB.out | apply below_alloc | apply pw_below_drewN | apply below_drew1) | exact HB.out)) hb);have n1_ := am0 (hbox);have n2_ := am0 ((by rw [hg];exact (below_size (by repeat (first | (with_reducible first | exact HB.out | apply below_alloc | apply pw_below_drewN | apply below_drew1) | exact HB.out))) : w.heap.size ≤ gb423));have n3_ := am0 ((by rw [hg];exact (below_size (by repeat (first | (with_reducible first | exact HB.out | apply below_alloc | apply pw_below_drewN | apply below_drew1) | exact HB.out))) : w.heap.size ≤ gb423));clear HB;have HB := n0_;have BK423 := n1_;have GW423 := n2_;have GE423 := n3_;clear n0_ n1_ n2_ n3_;clear hb hbox hg))
 (try simp only [Act.put,List.setIfInBounds_toArray,List.set_cons_zero,List.set_cons_succ])
 go_cut [18] (fun v18 wc => ∃ (kq : Nat) (x18_5 : Bool),v18 = .bool x18_5 ∧ Aside0 (rela_Check.j0 kq l1 a2 x18_5 a0_0 a0_1 a0_2 a0_3 a0_4 = some r) ∧ Aside0 (kq ≤ k) ∧ Aside0 (wc.heap[gb423]? = some (.cells #[.int .i64 a0_0, .int .i64 a0_1, .int .u8 a0_2, .int .i64 a0_3, .int .i64 a0_4] 94 (0,0))) ∧ Aside0 (Below w.heap.size w wc))
 case first =>
  have H := HC6.out;clear HC6
  by_cases c8 : a2 < 0
  ·rw [if_pos c8] at H
   have c8b0 : decide (a2 < 0) = true := decide_eq_true c8;clear c8
   (first | rw [c8b0] | (simp only [i64_w,i32_w];rw [c8b0]) | skip)
   have H' := am0 H;clear H;go_wp2
   go_meet
   case rel => exact ⟨_,(true),(by first | rfl | (simp;done) | (simp [*];done)),H',⟨by first | omega | exact Nat.le_refl _⟩,⟨by (with_reducible repeat (first | refine blk_drewN ?_ _ | refine blk_drew ?_ | refine blk_alloc ?_ _));exact BK423.out⟩,⟨by repeat (first | (with_reducible first | exact HB.out | apply below_alloc | apply pw_below_drewN | apply below_drew1 | refine below_set ?_ GE423.out) | exact HB.out)⟩⟩
  rw [if_neg c8] at H;have c8b0 : decide (a2 < 0) = false := decide_eq_false c8;clear c8
  (first | rw [c8b0] | (simp only [i64_w,i32_w];rw [c8b0]) | skip)
  have H' := am0 H;clear H;go_wp2
  go_meet
  case rel => exact ⟨_,(decide (a2 > 64)),(by first | rfl | (simp;done) | (simp [*];done)),H',⟨by first | omega | exact Nat.le_refl _⟩,⟨by (with_reducible repeat (first | refine blk_drewN ?_ _ | refine blk_drew ?_ | refine blk_alloc ?_ _));exact BK423.out⟩,⟨by repeat (first | (with_reducible first | exact HB.out | apply below_alloc | apply pw_below_drewN | apply below_drew1 | refine below_set ?_ GE423.out) | exact HB.out)⟩⟩
 case rest =>
  clear HC6;try clear c1
  try clear p2
  try clear c4
  try clear c4b0
  try clear c4b1
  try clear c8
  try clear c8b0
  obtain ⟨kq,x18_5,rfl,HA,HJ5,BK423,HB⟩ := hcut
  cases kq with
  | zero => exact absurd HA.out (by simp [rela_Check.j0])
  | succ kj5 =>
   have H := HA.out;clear HA;simp only [rela_Check.j0] at H
   by_cases c9 : x18_5 = true
   ·subst c9
    have H1 : (some 2) = some r := by rw [if_pos rfl] at H;exact H
    clear H;have H := H1;clear H1;obtain rfl := Option.some.inj H;go_wp2
    go_ret
    exact ⟨by first | rfl | (simp [errW_none,errW_some] <;> rfl) | (simp [*,errW_none,errW_some] <;> rfl),by repeat (first | (with_reducible first | exact HB.out | apply below_alloc | apply pw_below_drewN | apply below_drew1 | refine below_set ?_ GE423.out) | exact HB.out)⟩
   replace c9 := Bool.eq_false_iff.mpr c9;subst c9;have H1 : (rela_Check.l0 kj5 l1 a2 l1 (l1.length : Int) 0 a0_0 a0_1 a0_2 a0_3 a0_4) = some r := by rw [if_neg (show ¬ (false = true) by decide)] at H;exact H
   clear H;have H := H1;clear H1;have H' := am0 H;clear H;go_wp2
   go_loopg [21] kj5 (fun kq v21 w' => ∃ (x21_2 : Int),v21 = .int .i64 x21_2 ∧ Aside0 (rela_Check.l0 kq l1 a2 l1 (l1.length : Int) x21_2 a0_0 a0_1 a0_2 a0_3 a0_4 = some r) ∧ Aside0 (kq ≤ kj5) ∧ Aside0 (w'.heap[gb423]? = some (.cells #[.int .i64 a0_0, .int .i64 a0_1, .int .u8 a0_2, .int .i64 a0_3, .int .i64 a0_4] 94 (0,0))) ∧ Aside0 (Below w.heap.size w w'))
   case atStart => exact ⟨(0),(by first | rfl | (simp;done) | (simp [*];done)),H',⟨Nat.le_refl _⟩,⟨by (with_reducible repeat (first | refine blk_drewN ?_ _ | refine blk_drew ?_ | refine blk_alloc ?_ _));exact BK423.out⟩,⟨by repeat (first | (with_reducible first | exact HB.out | apply below_alloc | apply pw_below_drewN | apply below_drew1 | refine below_set ?_ GE423.out) | exact HB.out)⟩⟩
   case round =>
    clear H';try clear c1
    try clear p2
    try clear c4
    try clear c4b0
    try clear c4b1
    try clear c8
    try clear c8b0
    try clear c9
    try clear p2
    obtain ⟨x21_2,rfl,HA,HK2,BK423,HB⟩ := hrel
    cases gk with
    | zero => exact absurd HA.out (by simp [rela_Check.l0])
    | succ k2 =>
     have H := HA.out;clear HA;simp only [rela_Check.l0] at H
     by_cases c10 : x21_2 < (l1.length : Int)
     ·rw [if_pos c10] at H
      have c10b0 : decide (x21_2 < (l1.length : Int)) = true := decide_eq_true c10;clear c10
      by_cases c11 : 0 ≤ x21_2
      ·rw [if_pos c11] at H
       have c11b0 : decide (0 ≤ x21_2) = true := decide_eq_true c11;clear c11
       by_cases c12 : x21_2 < (l1.length : Int)
       ·rw [if_pos c12] at H
        have c12b0 : decide (x21_2 < (l1.length : Int)) = true := decide_eq_true c12;clear c12;replace H := Option.bind_eq_some_iff.mp H;obtain ⟨t426,A130,H⟩ := H;replace H : (if t426 = 0 then (rela_Check.l0 k2 l1 a2 l1 (l1.length : Int) (wrap64 (x21_2 + 1)) a0_0 a0_1 a0_2 a0_3 a0_4) else (some t426)) = some r := H;have A13 := am0 A130;clear A130
        by_cases c14 : t426 = 0
        ·rw [if_pos c14] at H
         have c14b0 : (t426 == 0) = true := beq_iff_eq.mpr c14;have c14b1 : (t426 != 0) = false := bne_eq_false_iff_eq.mpr c14;clear c14;have H' := am0 H;clear H;have p424 : 0 ≤ (x21_2 : Int) := of_decide_eq_true (by first | (with_reducible assumption) | assumption);have q424 : x21_2 < (l1.length : Int) := of_decide_eq_true (by first | (with_reducible assumption) | assumption);obtain ⟨ad424,A424_2,c424_2,e424,hx424_0,hx424_1,hx424_2,hx424_3,hl424_2,hi424_2⟩ := at_T72 HR1.out x21_2 p424 q424;cases e424;replace hx424_0 := (HB.out.cell (World.block_lt_of_cell? w _ hx424_0)).trans hx424_0;replace hx424_1 := (HB.out.cell (World.block_lt_of_cell? w _ hx424_1)).trans hx424_1;replace hx424_2 := (HB.out.cell (World.block_lt_of_cell? w _ hx424_2)).trans hx424_2;replace hx424_3 := (HB.out.cell (World.block_lt_of_cell? w _ hx424_3)).trans hx424_3;have HR424_2 := am0 hi424_2;have HC424_2 := am0 hl424_2;clear hi424_2 hl424_2;replace p424 := eq_true p424;replace q424 := eq_true q424;go_wp2_with (first | ((with_reducible refine gate_dst (N := 8) rfl ?_);(try (refine gate_guard (by rfl) ?_;dsimp only));refine box_event ?hg (N := 8) ?hd (cs := #[.string (⟨#[]⟩ : ByteArray), .int .i64 0, .slice none 0 0, .int .i64 0]) (t := 72) ?hr ?_;(case hd => rfl);(case hg => rfl);(case hr => first | (go_simp;done) | (go_simp;rfl));intro gb425 hg w15 hbox hb;have n0_ := am0 (blk_below (g := gb423) (o := .cells #[.int .i64 a0_0, .int .i64 a0_1, .int .u8 a0_2, .int .i64 a0_3, .int .i64 a0_4] 94 (0,0)) (by (with_reducible repeat (first | refine blk_drewN ?_ _ | refine blk_drew ?_ | refine blk_alloc ?_ _));exact BK423.out) hb);have n1_ := am0 (below_step (by repeat (first | (with_reducible first | exact HB.out | apply below_alloc | apply pw_below_drewN | apply below_drew1 | refine below_set ?_ GE423.out) | exact HB.out)) hb);have n2_ := am0 (hbox);have n3_ := am0 ((by rw [hg];exact (below_size (by repeat (first | (with_reducible first | exact HB.out | apply below_alloc | apply pw_below_drewN | apply below_drew1 | refine below_set ?_ GE423.out) | exact HB.out))) : w.heap.size ≤ gb425));have n4_ := am0 ((by rw [hg];exact (below_size (by repeat (first | (with_reducible first | exact HB.out | apply below_alloc | apply pw_below_drewN | apply below_drew1 | refine below_set ?_ GE423.out) | exact HB.out))) : w.heap.size ≤ gb425));have n5_ := am0 ((by rw [hg];exact Nat.ne_of_lt (blk_lt (g := gb423) (o := .cells #[.int .i64 a0_0, .int .i64 a0_1, .int .u8 a0_2, .int .i64 a0_3, .int .i64 a0_4] 94 (0,0)) (by (with_reducible repeat (first | refine blk_drewN ?_ _ | refine blk_drew ?_ | refine blk_alloc ?_ _));exact BK423.out)) : gb423 ≠ gb425));have n6_ := am0 ((by rw [hg];exact Nat.ne_of_gt (blk_lt (g := gb423) (o := .cells #[.int .i64 a0_0, .int .i64 a0_1, .int .u8 a0_2, .int .i64 a0_3, .int .i64 a0_4] 94 (0,0)) (by (with_reducible repeat (first | refine blk_drewN ?_ _ | refine blk_drew ?_ | refine blk_alloc ?_ _));exact BK423.out)) : gb425 ≠ gb423));clear BK423;clear HB;have BK423 := n0_;have HB := n1_;have BK425 := n2_;have GW425 := n3_;have GE425 := n4_;have NB423_425 := n5_;have NB425_423 := n6_;clear n0_ n1_ n2_ n3_ n4_ n5_ n6_;clear hb hbox hg;have hnb16 := NB425_423.out;have hnc16 := NB423_425.out;have hcz17_0 : w15.cell? ⟨gb425,0,none⟩ = some (.string (⟨#[]⟩ : ByteArray)) := (blk_cell BK425.out 0).trans rfl;have hcz17_1 : w15.cell? ⟨gb425,1,none⟩ = some (.int .i64 0) := (blk_cell BK425.out 1).trans rfl;have hcz17_2 : w15.cell? ⟨gb425,2,none⟩ = some (.slice none 0 0) := (blk_cell BK425.out 2).trans rfl;have hcz17_3 : w15.cell? ⟨gb425,3,none⟩ = some (.int .i64 0) := (blk_cell BK425.out 3).trans rfl;have hfz17_0 := blk_frozen BK425.out 0;have hfz17_1 := blk_frozen BK425.out 1;have hfz17_2 := blk_frozen BK425.out 2;have hfz17_3 := blk_frozen BK425.out 3) | ((with_reducible refine gate_callee (f := 33) rfl ?_);refine goesL_ (some 26) rfl rfl Tryd.func33 (by kernel_rfl) rfl #[.agg #[.string ((rd_T72 l1 x21_2).f0), .int .i64 ((rd_T72 l1 x21_2).f1), .slice A424_2 ((rd_T72 l1 x21_2).f2).length c424_2, .int .i64 ((rd_T72 l1 x21_2).f3)]] rfl (by (try simp only [List.map_toArray,List.map_cons,List.map_nil]);first | done | rfl | (simp only [List.length_drop,List.length_take];rfl)) ?_;(with_reducible refine (sect_Check.calls k2 ((rd_T72 l1 x21_2).f0) ((rd_T72 l1 x21_2).f1) _ _ ((rd_T72 l1 x21_2).f2) ((rd_T72 l1 x21_2).f3) t426 _ ?side1 ?side2 A13.out).mono ?_);(case side1 => exact Kd.C_below HR424_2.out (by repeat (first | (with_reducible first | exact HB.out | apply below_alloc | apply pw_below_drewN | apply below_drew1 | refine below_set ?_ GE423.out | refine below_set ?_ GE425.out) | exact HB.out)));(case side2 => exact HC424_2.out);rintro e w18 ⟨rfl,hb⟩;refine ⟨_,rfl, ?_⟩;have n0_ := am0 (blk_below (g := gb423) (o := .cells #[.int .i64 a0_0, .int .i64 a0_1, .int .u8 a0_2, .int .i64 a0_3, .int .i64 a0_4] 94 (0,0)) (by (with_reducible repeat (first | refine blk_drewN ?_ _ | refine blk_drew ?_ | refine blk_alloc ?_ _));refine blk_far ?_ NB423_425.out _;(with_reducible repeat (first | refine blk_drewN ?_ _ | refine blk_drew ?_ | refine blk_alloc ?_ _));refine blk_far ?_ NB423_425.out _;(with_reducible repeat (first | refine blk_drewN ?_ _ | refine blk_drew ?_ | refine blk_alloc ?_ _));refine blk_far ?_ NB423_425.out _;(with_reducible repeat (first | refine blk_drewN ?_ _ | refine blk_drew ?_ | refine blk_alloc ?_ _));refine blk_far ?_ NB423_425.out _;(with_reducible repeat (first | refine blk_drewN ?_ _ | refine blk_drew ?_ | refine blk_alloc ?_ _));exact BK423.out) hb);have n1_ := am0 (blk_below (g := gb425) (o := .cells #[.string ((rd_T72 l1 x21_2).f0), .int .i64 ((rd_T72 l1 x21_2).f1), .slice A424_2 ((rd_T72 l1 x21_2).f2).length c424_2, .int .i64 ((rd_T72 l1 x21_2).f3)] 72 (0,0)) (by (with_reducible repeat (first | refine blk_drewN ?_ _ | refine blk_drew ?_ | refine blk_alloc ?_ _));refine blk_put (cs := #[.string ((rd_T72 l1 x21_2).f0), .int .i64 ((rd_T72 l1 x21_2).f1), .slice A424_2 ((rd_T72 l1 x21_2).f2).length c424_2, .int .i64 0]) ?_ 3 _ rfl;(with_reducible repeat (first | refine blk_drewN ?_ _ | refine blk_drew ?_ | refine blk_alloc ?_ _));refine blk_put (cs := #[.string ((rd_T72 l1 x21_2).f0), .int .i64 ((rd_T72 l1 x21_2).f1), .slice none 0 0, .int .i64 0]) ?_ 2 _ rfl;(with_reducible repeat (first | refine blk_drewN ?_ _ | refine blk_drew ?_ | refine blk_alloc ?_ _));refine blk_put (cs := #[.string ((rd_T72 l1 x21_2).f0), .int .i64 0, .slice none 0 0, .int .i64 0]) ?_ 1 _ rfl;(with_reducible repeat (first | refine blk_drewN ?_ _ | refine blk_drew ?_ | refine blk_alloc ?_ _));refine blk_put (cs := #[.string (⟨#[]⟩ : ByteArray), .int .i64 0, .slice none 0 0, .int .i64 0]) ?_ 0 _ rfl;(with_reducible repeat (first | refine blk_drewN ?_ _ | refine blk_drew ?_ | refine blk_alloc ?_ _));exact BK425.out) hb);have n2_ := am0 (below_step (by repeat (first | (with_reducible first | exact HB.out | apply below_alloc | apply pw_below_drewN | apply below_drew1 | refine below_set ?_ GE423.out | refine below_set ?_ GE425.out) | exact HB.out)) hb);clear BK423;clear BK425;clear HB;have BK423 := n0_;have BK425 := n1_;have HB := n2_;clear n0_ n1_ n2_;(try clear hb);(try clear hb2);(try clear hk);(try clear hi)))
         go_roundg k2
         case measure => have := HJ5.out;have := HK2.out;omega
         case rel => exact ⟨(wrap64 (x21_2 + 1)),(by first | rfl | (simp;done) | (simp [*];done)),H',⟨by have := HJ5.out;have := HK2.out;omega⟩,⟨by (with_reducible repeat (first | refine blk_drewN ?_ _ | refine blk_drew ?_ | refine blk_alloc ?_ _));exact BK423.out⟩,⟨by repeat (first | (with_reducible first | exact HB.out | apply below_alloc | apply pw_below_drewN | apply below_drew1 | refine below_set ?_ GE423.out | refine below_set ?_ GE425.out) | exact HB.out)⟩⟩
        rw [if_neg c14] at H;have c14b0 : (t426 == 0) = false := beq_eq_false_iff_ne.mpr c14;have c14b1 : (t426 != 0) = true := bne_iff_ne.mpr c14;obtain rfl := Option.some.inj H;have p424 : 0 ≤ (x21_2 : Int) := of_decide_eq_true (by first | (with_reducible assumption) | assumption);have q424 : x21_2 < (l1.length : Int) := of_decide_eq_true (by first | (with_reducible assumption) | assumption);obtain ⟨ad424,A424_2,c424_2,e424,hx424_0,hx424_1,hx424_2,hx424_3,hl424_2,hi424_2⟩ := at_T72 HR1.out x21_2 p424 q424;cases e424;replace hx424_0 := (HB.out.cell (World.block_lt_of_cell? w _ hx424_0)).trans hx424_0;replace hx424_1 := (HB.out.cell (World.block_lt_of_cell? w _ hx424_1)).trans hx424_1;replace hx424_2 := (HB.out.cell (World.block_lt_of_cell? w _ hx424_2)).trans hx424_2;replace hx424_3 := (HB.out.cell (World.block_lt_of_cell? w _ hx424_3)).trans hx424_3;have HR424_2 := am0 hi424_2;have HC424_2 := am0 hl424_2;clear hi424_2 hl424_2;replace p424 := eq_true p424;replace q424 := eq_true q424;go_wp2_with (first | ((with_reducible refine gate_dst (N := 8) rfl ?_);(try (refine gate_guard (by rfl) ?_;dsimp only));refine box_event ?hg (N := 8) ?hd (cs := #[.string (⟨#[]⟩ : ByteArray), .int .i64 0, .slice none 0 0, .int .i64 0]) (t := 72) ?hr ?_;(case hd => rfl);(case hg => rfl);(case hr => first | (go_simp;done) | (go_simp;rfl));intro gb425 hg w19 hbox hb;have n0_ := am0 (blk_below (g := gb423) (o := .cells #[.int .i64 a0_0, .int .i64 a0_1, .int .u8 a0_2, .int .i64 a0_3, .int .i64 a0_4] 94 (0,0)) (by (with_reducible repeat (first | refine blk_drewN ?_ _ | refine blk_drew ?_ | refine blk_alloc ?_ _));exact BK423.out) hb);have n1_ := am0 (below_step (by repeat (first | (with_reducible first | exact HB.out | apply below_alloc | apply pw_below_drewN | apply below_drew1 | refine below_set ?_ GE423.out) | exact HB.out)) hb);have n2_ := am0 (hbox);have n3_ := am0 ((by rw [hg];exact (below_size (by repeat (first | (with_reducible first | exact HB.out | apply below_alloc | apply pw_below_drewN | apply below_drew1 | refine below_set ?_ GE423.out) | exact HB.out))) : w.heap.size ≤ gb425));have n4_ := am0 ((by rw [hg];exact (below_size (by repeat (first | (with_reducible first | exact HB.out | apply below_alloc | apply pw_below_drewN | apply below_drew1 | refine below_set ?_ GE423.out) | exact HB.out))) : w.heap.size ≤ gb425));have n5_ := am0 ((by rw [hg];exact Nat.ne_of_lt (blk_lt (g := gb423) (o := .cells #[.int .i64 a0_0, .int .i64 a0_1, .int .u8 a0_2, .int .i64 a0_3, .int .i64 a0_4] 94 (0,0)) (by (with_reducible repeat (first | refine blk_drewN ?_ _ | refine blk_drew ?_ | refine blk_alloc ?_ _));exact BK423.out)) : gb423 ≠ gb425));have n6_ := am0 ((by rw [hg];exact Nat.ne_of_gt (blk_lt (g := gb423) (o := .cells #[.int .i64 a0_0, .int .i64 a0_1, .int .u8 a0_2, .int .i64 a0_3, .int .i64 a0_4] 94 (0,0)) (by (with_reducible repeat (first | refine blk_drewN ?_ _ | refine blk_drew ?_ | refine blk_alloc ?_ _));exact BK423.out)) : gb425 ≠ gb423));clear BK423;clear HB;have BK423 := n0_;have HB := n1_;have BK425 := n2_;have GW425 := n3_;have GE425 := n4_;have NB423_425 := n5_;have NB425_423 := n6_;clear n0_ n1_ n2_ n3_ n4_ n5_ n6_;clear hb hbox hg;have hnb20 := NB425_423.out;have hnc20 := NB423_425.out;have hcz21_0 : w19.cell? ⟨gb425,0,none⟩ = some (.string (⟨#[]⟩ : ByteArray)) := (blk_cell BK425.out 0).trans rfl;have hcz21_1 : w19.cell? ⟨gb425,1,none⟩ = some (.int .i64 0) := (blk_cell BK425.out 1).trans rfl;have hcz21_2 : w19.cell? ⟨gb425,2,none⟩ = some (.slice none 0 0) := (blk_cell BK425.out 2).trans rfl;have hcz21_3 : w19.cell? ⟨gb425,3,none⟩ = some (.int .i64 0) := (blk_cell BK425.out 3).trans rfl;have hfz21_0 := blk_frozen BK425.out 0;have hfz21_1 := blk_frozen BK425.out 1;have hfz21_2 := blk_frozen BK425.out 2;have hfz21_3 := blk_frozen BK425.out 3) | ((with_reducible refine gate_callee (f := 33) rfl ?_);refine goesL_ (some 26) rfl rfl Tryd.func33 (by kernel_rfl) rfl #[.agg #[.string ((rd_T72 l1 x21_2).f0), .int .i64 ((rd_T72 l1 x21_2).f1), .slice A424_2 ((rd_T72 l1 x21_2).f2).length c424_2, .int .i64 ((rd_T72 l1 x21_2).f3)]] rfl (by (try simp only [List.map_toArray,List.map_cons,List.map_nil]);first | done | rfl | (simp only [List.length_drop,List.length_take];rfl)) ?_;(with_reducible refine (sect_Check.calls k2 ((rd_T72 l1 x21_2).f0) ((rd_T72 l1 x21_2).f1) _ _ ((rd_T72 l1 x21_2).f2) ((rd_T72 l1 x21_2).f3) t426 _ ?side1 ?side2 A13.out).mono ?_);(case side1 => exact Kd.C_below HR424_2.out (by repeat (first | (with_reducible first | exact HB.out | apply below_alloc | apply pw_below_drewN | apply below_drew1 | refine below_set ?_ GE423.out | refine below_set ?_ GE425.out) | exact HB.out)));(case side2 => exact HC424_2.out);rintro e w22 ⟨rfl,hb⟩;refine ⟨_,rfl, ?_⟩;have n0_ := am0 (blk_below (g := gb423) (o := .cells #[.int .i64 a0_0, .int .i64 a0_1, .int .u8 a0_2, .int .i64 a0_3, .int .i64 a0_4] 94 (0,0)) (by (with_reducible repeat (first | refine blk_drewN ?_ _ | refine blk_drew ?_ | refine blk_alloc ?_ _));refine blk_far ?_ NB423_425.out _;(with_reducible repeat (first | refine blk_drewN ?_ _ | refine blk_drew ?_ | refine blk_alloc ?_ _));refine blk_far ?_ NB423_425.out _;(with_reducible repeat (first | refine blk_drewN ?_ _ | refine blk_drew ?_ | refine blk_alloc ?_ _));refine blk_far ?_ NB423_425.out _;(with_reducible repeat (first | refine blk_drewN ?_ _ | refine blk_drew ?_ | refine blk_alloc ?_ _));refine blk_far ?_ NB423_425.out _;(with_reducible repeat (first | refine blk_drewN ?_ _ | refine blk_drew ?_ | refine blk_alloc ?_ _));exact BK423.out) hb);have n1_ := am0 (blk_below (g := gb425) (o := .cells #[.string ((rd_T72 l1 x21_2).f0), .int .i64 ((rd_T72 l1 x21_2).f1), .slice A424_2 ((rd_T72 l1 x21_2).f2).length c424_2, .int .i64 ((rd_T72 l1 x21_2).f3)] 72 (0,0)) (by (with_reducible repeat (first | refine blk_drewN ?_ _ | refine blk_drew ?_ | refine blk_alloc ?_ _));refine blk_put (cs := #[.string ((rd_T72 l1 x21_2).f0), .int .i64 ((rd_T72 l1 x21_2).f1), .slice A424_2 ((rd_T72 l1 x21_2).f2).length c424_2, .int .i64 0]) ?_ 3 _ rfl;(with_reducible repeat (first | refine blk_drewN ?_ _ | refine blk_drew ?_ | refine blk_alloc ?_ _));refine blk_put (cs := #[.string ((rd_T72 l1 x21_2).f0), .int .i64 ((rd_T72 l1 x21_2).f1), .slice none 0 0, .int .i64 0]) ?_ 2 _ rfl;(with_reducible repeat (first | refine blk_drewN ?_ _ | refine blk_drew ?_ | refine blk_alloc ?_ _));refine blk_put (cs := #[.string ((rd_T72 l1 x21_2).f0), .int .i64 0, .slice none 0 0, .int .i64 0]) ?_ 1 _ rfl;(with_reducible repeat (first | refine blk_drewN ?_ _ | refine blk_drew ?_ | refine blk_alloc ?_ _));refine blk_put (cs := #[.string (⟨#[]⟩ : ByteArray), .int .i64 0, .slice none 0 0, .int .i64 0]) ?_ 0 _ rfl;(with_reducible repeat (first | refine blk_drewN ?_ _ | refine blk_drew ?_ | refine blk_alloc ?_ _));exact BK425.out) hb);have n2_ := am0 (below_step (by repeat (first | (with_reducible first | exact HB.out | apply below_alloc | apply pw_below_drewN | apply below_drew1 | refine below_set ?_ GE423.out | refine below_set ?_ GE425.out) | exact HB.out)) hb);clear BK423;clear BK425;clear HB;have BK423 := n0_;have BK425 := n1_;have HB := n2_;clear n0_ n1_ n2_;(try clear hb);(try clear hb2);(try clear hk);(try clear hi)))
        go_ret
        exact ⟨by first | rfl | (simp [errW_none,errW_some] <;> rfl) | (simp [*,errW_none,errW_some] <;> rfl),by repeat (first | (with_reducible first | exact HB.out | apply below_alloc | apply pw_below_drewN | apply below_drew1 | refine below_set ?_ GE423.out | refine below_set ?_ GE425.out) | exact HB.out)⟩
       rw [if_neg c12] at H;exact absurd H (by simp)
      rw [if_neg c11] at H;exact absurd H (by simp)
     rw [if_neg c10] at H;have c10b0 : decide (x21_2 < (l1.length : Int)) = false := decide_eq_false c10;clear c10;have HC23 := am0 H;clear H;go_upto_region 12 with (fail)
     go_cut [52] (fun v52 wc => ∃ (kq : Nat) (x52_22 : Bool),v52 = .bool x52_22 ∧ Aside0 (rela_Check.j2 kq x52_22 = some r) ∧ Aside0 (kq ≤ k2) ∧ Aside0 (wc.heap[gb423]? = some (.cells #[.int .i64 a0_0, .int .i64 a0_1, .int .u8 a0_2, .int .i64 a0_3, .int .i64 a0_4] 94 (0,0))) ∧ Aside0 (Below w.heap.size w wc))
     case first =>
      have H := HC23.out;clear HC23
      by_cases c24 : a0_0 < 1
      ·rw [if_pos c24] at H
       have c24b0 : decide (a0_0 < 1) = true := decide_eq_true c24;clear c24
       (first | rw [c24b0] | (simp only [i64_w,i32_w];rw [c24b0]) | skip)
       have H' := am0 H;clear H;try go_wp2
       have n0_ := am0 (blk_drew BK423.out);have n1_ := am0 (below_drew1 HB.out);clear BK423;clear HB;have BK423 := n0_;have HB := n1_;clear n0_ n1_;refine start_ (n := 22) (S := fun w' => w'.cell? ⟨gb423,0,none⟩ = some (.int .i64 a0_0) ∧ w'.cell? ⟨gb423,1,none⟩ = some (.int .i64 a0_1) ∧ w'.cell? ⟨gb423,2,none⟩ = some (.int .u8 a0_2) ∧ w'.cell? ⟨gb423,3,none⟩ = some (.int .i64 a0_3) ∧ w'.cell? ⟨gb423,4,none⟩ = some (.int .i64 a0_4)) (ds := []) #[false,false,false,false,false,false,false,false,false,false,false,false,false,false,false,false,false,false,false,false,false,false] (by kernel_rfl) rfl rfl ⟨(blk_cell BK423.out 0).trans rfl,(blk_cell BK423.out 1).trans rfl,(blk_cell BK423.out 2).trans rfl,(blk_cell BK423.out 3).trans rfl,(blk_cell BK423.out 4).trans rfl⟩ (fun hHeld => ?_);refine with_tabW rela_Check.tab12 rela_Check.bits12 (fun HT_ HW_ => ?_);generalize wr.drew = w25 at BK423 HB hHeld ⊢;refine pure_ (i := 0) (N := some 31) (v := ?_) (a' := ?_) #[true,false,false,false,false,false,false,false,false,false,false,false,false,false,false,false,false,false,false,false,false,false] rfl rfl (any_of HT_.out (by kernel_rfl)) (fun _ _ _ h => h) (Or.inl ⟨by rfl, ?_⟩) ?_ ?_;rotate_left
       ·intro w'
        go_simp
        with_reducible rfl
       rotate_left
       ·simp only [Act.put,List.setIfInBounds_toArray,List.set_cons_zero,List.set_cons_succ,i64_w,i32_w]
        rfl
       refine take_ (i := 1) (N := some 32) (v := ?_) (a' := ?_) #[true,true,false,false,false,false,false,false,false,false,false,false,false,false,false,false,false,false,false,false,false,false] rfl rfl (take_ofW HT_.out HW_.out (by kernel_rfl)) (fun _ _ _ h => h) (Or.inl ⟨by rfl, ?_⟩) hHeld ?_ ?_;rotate_left
       ·rintro w' ⟨s0,s1,s2,s3,s4⟩
        go_simp
        with_reducible rfl
       rotate_left
       ·simp only [Act.put,List.setIfInBounds_toArray,List.set_cons_zero,List.set_cons_succ,i64_w,i32_w]
        rfl
       refine pure_ (i := 2) (N := some 33) (v := ?_) (a' := ?_) #[true,true,true,false,false,false,false,false,false,false,false,false,false,false,false,false,false,false,false,false,false,false] rfl rfl (any_of HT_.out (by kernel_rfl)) (fun _ _ _ h => h) (Or.inl ⟨by rfl, ?_⟩) ?_ ?_;rotate_left
       ·intro w'
        go_simp
        with_reducible rfl
       rotate_left
       ·simp only [Act.put,List.setIfInBounds_toArray,List.set_cons_zero,List.set_cons_succ,i64_w,i32_w]
        rfl
       refine pure_ (i := 3) (N := some 34) (v := ?_) (a' := ?_) #[true,true,true,true,false,false,false,false,false,false,false,false,false,false,false,false,false,false,false,false,false,false] rfl rfl (any_of HT_.out (by kernel_rfl)) (fun _ _ _ h => h) (Or.inl ⟨by rfl, ?_⟩) ?_ ?_;rotate_left
       ·intro w'
        go_simp
        with_reducible rfl
       rotate_left
       ·simp only [Act.put,List.setIfInBounds_toArray,List.set_cons_zero,List.set_cons_succ,i64_w,i32_w]
        rfl
       refine pure_ (i := 4) (N := some 35) (v := undef) (a' := ?_) #[true,true,true,true,true,false,false,false,false,false,false,false,false,false,false,false,false,false,false,false,false,false] rfl rfl (any_of HT_.out (by kernel_rfl)) (fun _ _ _ h => h) (Or.inr ⟨by rfl,rfl⟩) ?_ ?_;rotate_left
       ·simp only [Act.put,List.setIfInBounds_toArray,List.set_cons_zero,List.set_cons_succ,i64_w,i32_w]
        rfl
       refine pure_ (i := 5) (N := some 36) (v := undef) (a' := ?_) #[true,true,true,true,true,true,false,false,false,false,false,false,false,false,false,false,false,false,false,false,false,false] rfl rfl (any_of HT_.out (by kernel_rfl)) (fun _ _ _ h => h) (Or.inr ⟨by rfl,rfl⟩) ?_ ?_;rotate_left
       ·simp only [Act.put,List.setIfInBounds_toArray,List.set_cons_zero,List.set_cons_succ,i64_w,i32_w]
        rfl
       refine pure_ (i := 6) (N := some 37) (v := undef) (a' := ?_) #[true,true,true,true,true,true,true,false,false,false,false,false,false,false,false,false,false,false,false,false,false,false] rfl rfl (any_of HT_.out (by kernel_rfl)) (fun _ _ _ h => h) (Or.inr ⟨by rfl,rfl⟩) ?_ ?_;rotate_left
       ·simp only [Act.put,List.setIfInBounds_toArray,List.set_cons_zero,List.set_cons_succ,i64_w,i32_w]
        rfl
       refine pure_ (i := 7) (N := some 38) (v := undef) (a' := ?_) #[true,true,true,true,true,true,true,true,false,false,false,false,false,false,false,false,false,false,false,false,false,false] rfl rfl (any_of HT_.out (by kernel_rfl)) (fun _ _ _ h => h) (Or.inr ⟨by rfl,rfl⟩) ?_ ?_;rotate_left
       ·simp only [Act.put,List.setIfInBounds_toArray,List.set_cons_zero,List.set_cons_succ,i64_w,i32_w]
        rfl
       refine pure_ (i := 8) (N := some 39) (v := undef) (a' := ?_) #[true,true,true,true,true,true,true,true,true,false,false,false,false,false,false,false,false,false,false,false,false,false] rfl rfl (any_of HT_.out (by kernel_rfl)) (fun _ _ _ h => h) (Or.inr ⟨by rfl,rfl⟩) ?_ ?_;rotate_left
       ·simp only [Act.put,List.setIfInBounds_toArray,List.set_cons_zero,List.set_cons_succ,i64_w,i32_w]
        rfl
       refine pure_ (i := 9) (N := some 40) (v := ?_) (a' := ?_) #[true,true,true,true,true,true,true,true,true,true,false,false,false,false,false,false,false,false,false,false,false,false] rfl rfl (any_of HT_.out (by kernel_rfl)) (fun _ _ _ h => h) (Or.inl ⟨by rfl, ?_⟩) ?_ ?_;rotate_left
       ·intro w'
        go_simp
        with_reducible rfl
       rotate_left
       ·simp only [Act.put,List.setIfInBounds_toArray,List.set_cons_zero,List.set_cons_succ,i64_w,i32_w]
        rfl
       refine pure_ (i := 10) (N := some 41) (v := ?_) (a' := ?_) #[true,true,true,true,true,true,true,true,true,true,true,false,false,false,false,false,false,false,false,false,false,false] rfl rfl (any_of HT_.out (by kernel_rfl)) (fun _ _ _ h => h) (Or.inl ⟨by rfl, ?_⟩) ?_ ?_;rotate_left
       ·intro w'
        go_simp
        with_reducible rfl
       rotate_left
       ·simp only [Act.put,List.setIfInBounds_toArray,List.set_cons_zero,List.set_cons_succ,i64_w,i32_w]
        rfl
       refine pure_ (i := 11) (N := some 42) (v := undef) (a' := ?_) #[true,true,true,true,true,true,true,true,true,true,true,true,false,false,false,false,false,false,false,false,false,false] rfl rfl (any_of HT_.out (by kernel_rfl)) (fun _ _ _ h => h) (Or.inr ⟨by rfl,rfl⟩) ?_ ?_;rotate_left
       ·simp only [Act.put,List.setIfInBounds_toArray,List.set_cons_zero,List.set_cons_succ,i64_w,i32_w]
        rfl
       refine pure_ (i := 12) (N := some 43) (v := undef) (a' := ?_) #[true,true,true,true,true,true,true,true,true,true,true,true,true,false,false,false,false,false,false,false,false,false] rfl rfl (any_of HT_.out (by kernel_rfl)) (fun _ _ _ h => h) (Or.inr ⟨by rfl,rfl⟩) ?_ ?_;rotate_left
       ·simp only [Act.put,List.setIfInBounds_toArray,List.set_cons_zero,List.set_cons_succ,i64_w,i32_w]
        rfl
       refine pure_ (i := 13) (N := some 44) (v := undef) (a' := ?_) #[true,true,true,true,true,true,true,true,true,true,true,true,true,true,false,false,false,false,false,false,false,false] rfl rfl (any_of HT_.out (by kernel_rfl)) (fun _ _ _ h => h) (Or.inr ⟨by rfl,rfl⟩) ?_ ?_;rotate_left
       ·simp only [Act.put,List.setIfInBounds_toArray,List.set_cons_zero,List.set_cons_succ,i64_w,i32_w]
        rfl
       refine pure_ (i := 14) (N := some 45) (v := undef) (a' := ?_) #[true,true,true,true,true,true,true,true,true,true,true,true,true,true,true,false,false,false,false,false,false,false] rfl rfl (any_of HT_.out (by kernel_rfl)) (fun _ _ _ h => h) (Or.inr ⟨by rfl,rfl⟩) ?_ ?_;rotate_left
       ·simp only [Act.put,List.setIfInBounds_toArray,List.set_cons_zero,List.set_cons_succ,i64_w,i32_w]
        rfl
       refine pure_ (i := 15) (N := some 46) (v := undef) (a' := ?_) #[true,true,true,true,true,true,true,true,true,true,true,true,true,true,true,true,false,false,false,false,false,false] rfl rfl (any_of HT_.out (by kernel_rfl)) (fun _ _ _ h => h) (Or.inr ⟨by rfl,rfl⟩) ?_ ?_;rotate_left
       ·simp only [Act.put,List.setIfInBounds_toArray,List.set_cons_zero,List.set_cons_succ,i64_w,i32_w]
        rfl
       refine pure_ (i := 16) (N := some 47) (v := undef) (a' := ?_) #[true,true,true,true,true,true,true,true,true,true,true,true,true,true,true,true,true,false,false,false,false,false] rfl rfl (any_of HT_.out (by kernel_rfl)) (fun _ _ _ h => h) (Or.inr ⟨by rfl,rfl⟩) ?_ ?_;rotate_left
       ·simp only [Act.put,List.setIfInBounds_toArray,List.set_cons_zero,List.set_cons_succ,i64_w,i32_w]
        rfl
       refine pure_ (i := 17) (N := some 48) (v := undef) (a' := ?_) #[true,true,true,true,true,true,true,true,true,true,true,true,true,true,true,true,true,true,false,false,false,false] rfl rfl (any_of HT_.out (by kernel_rfl)) (fun _ _ _ h => h) (Or.inr ⟨by rfl,rfl⟩) ?_ ?_;rotate_left
       ·simp only [Act.put,List.setIfInBounds_toArray,List.set_cons_zero,List.set_cons_succ,i64_w,i32_w]
        rfl
       refine pure_ (i := 18) (N := some 49) (v := undef) (a' := ?_) #[true,true,true,true,true,true,true,true,true,true,true,true,true,true,true,true,true,true,true,false,false,false] rfl rfl (any_of HT_.out (by kernel_rfl)) (fun _ _ _ h => h) (Or.inr ⟨by rfl,rfl⟩) ?_ ?_;rotate_left
       ·simp only [Act.put,List.setIfInBounds_toArray,List.set_cons_zero,List.set_cons_succ,i64_w,i32_w]
        rfl
       refine pure_ (i := 19) (N := some 50) (v := undef) (a' := ?_) #[true,true,true,true,true,true,true,true,true,true,true,true,true,true,true,true,true,true,true,true,false,false] rfl rfl (any_of HT_.out (by kernel_rfl)) (fun _ _ _ h => h) (Or.inr ⟨by rfl,rfl⟩) ?_ ?_;rotate_left
       ·simp only [Act.put,List.setIfInBounds_toArray,List.set_cons_zero,List.set_cons_succ,i64_w,i32_w]
        rfl
       refine pure_ (i := 20) (N := some 51) (v := undef) (a' := ?_) #[true,true,true,true,true,true,true,true,true,true,true,true,true,true,true,true,true,true,true,true,true,false] rfl rfl (any_of HT_.out (by kernel_rfl)) (fun _ _ _ h => h) (Or.inr ⟨by rfl,rfl⟩) ?_ ?_;rotate_left
       ·simp only [Act.put,List.setIfInBounds_toArray,List.set_cons_zero,List.set_cons_succ,i64_w,i32_w]
        rfl
       refine pure_ (i := 21) (N := some 52) (v := ?_) (a' := ?_) #[true,true,true,true,true,true,true,true,true,true,true,true,true,true,true,true,true,true,true,true,true,true] rfl rfl (any_of HT_.out (by kernel_rfl)) (fun _ _ _ h => h) (Or.inl ⟨by rfl, ?_⟩) ?_ ?_;rotate_left
       ·intro w'
        go_simp
        with_reducible rfl
       rotate_left
       ·simp only [Act.put,List.setIfInBounds_toArray,List.set_cons_zero,List.set_cons_succ,i64_w,i32_w]
        rfl
       refine done_ (done_of HT_.out (by kernel_rfl)) ?_;try go_wp2
       go_meet
       case rel => exact ⟨_,(true),(by first | rfl | (simp;done) | (simp [*];done)),H',⟨by have := HJ5.out;have := HK2.out;first | omega | exact Nat.le_refl _⟩,⟨by (with_reducible repeat (first | refine blk_drewN ?_ _ | refine blk_drew ?_ | refine blk_alloc ?_ _));exact BK423.out⟩,⟨by repeat (first | (with_reducible first | exact HB.out | apply below_alloc | apply pw_below_drewN | apply below_drew1 | refine below_set ?_ GE423.out) | exact HB.out)⟩⟩
      rw [if_neg c24] at H;have c24b0 : decide (a0_0 < 1) = false := decide_eq_false c24;clear c24
      (first | rw [c24b0] | (simp only [i64_w,i32_w];rw [c24b0]) | skip)
      by_cases c26 : a0_0 > (l1.length : Int)
      ·rw [if_pos c26] at H
       have c26b0 : decide ((l1.length : Int) < a0_0) = true := decide_eq_true c26;clear c26;have H' := am0 H;clear H;try go_wp2
       have n0_ := am0 (blk_drew BK423.out);have n1_ := am0 (below_drew1 HB.out);clear BK423;clear HB;have BK423 := n0_;have HB := n1_;clear n0_ n1_;refine start_ (n := 22) (S := fun w' => w'.cell? ⟨gb423,0,none⟩ = some (.int .i64 a0_0) ∧ w'.cell? ⟨gb423,1,none⟩ = some (.int .i64 a0_1) ∧ w'.cell? ⟨gb423,2,none⟩ = some (.int .u8 a0_2) ∧ w'.cell? ⟨gb423,3,none⟩ = some (.int .i64 a0_3) ∧ w'.cell? ⟨gb423,4,none⟩ = some (.int .i64 a0_4)) (ds := []) #[false,false,false,false,false,false,false,false,false,false,false,false,false,false,false,false,false,false,false,false,false,false] (by kernel_rfl) rfl rfl ⟨(blk_cell BK423.out 0).trans rfl,(blk_cell BK423.out 1).trans rfl,(blk_cell BK423.out 2).trans rfl,(blk_cell BK423.out 3).trans rfl,(blk_cell BK423.out 4).trans rfl⟩ (fun hHeld => ?_);refine with_tabW rela_Check.tab12 rela_Check.bits12 (fun HT_ HW_ => ?_);generalize wr.drew = w27 at BK423 HB hHeld ⊢;refine pure_ (i := 0) (N := some 31) (v := ?_) (a' := ?_) #[true,false,false,false,false,false,false,false,false,false,false,false,false,false,false,false,false,false,false,false,false,false] rfl rfl (any_of HT_.out (by kernel_rfl)) (fun _ _ _ h => h) (Or.inl ⟨by rfl, ?_⟩) ?_ ?_;rotate_left
       ·intro w'
        go_simp
        with_reducible rfl
       rotate_left
       ·simp only [Act.put,List.setIfInBounds_toArray,List.set_cons_zero,List.set_cons_succ,i64_w,i32_w]
        rfl
       refine take_ (i := 1) (N := some 32) (v := ?_) (a' := ?_) #[true,true,false,false,false,false,false,false,false,false,false,false,false,false,false,false,false,false,false,false,false,false] rfl rfl (take_ofW HT_.out HW_.out (by kernel_rfl)) (fun _ _ _ h => h) (Or.inl ⟨by rfl, ?_⟩) hHeld ?_ ?_;rotate_left
       ·rintro w' ⟨s0,s1,s2,s3,s4⟩
        go_simp
        with_reducible rfl
       rotate_left
       ·simp only [Act.put,List.setIfInBounds_toArray,List.set_cons_zero,List.set_cons_succ,i64_w,i32_w]
        rfl
       refine pure_ (i := 2) (N := some 33) (v := ?_) (a' := ?_) #[true,true,true,false,false,false,false,false,false,false,false,false,false,false,false,false,false,false,false,false,false,false] rfl rfl (any_of HT_.out (by kernel_rfl)) (fun _ _ _ h => h) (Or.inl ⟨by rfl, ?_⟩) ?_ ?_;rotate_left
       ·intro w'
        go_simp
        with_reducible rfl
       rotate_left
       ·simp only [Act.put,List.setIfInBounds_toArray,List.set_cons_zero,List.set_cons_succ,i64_w,i32_w]
        rfl
       refine pure_ (i := 3) (N := some 34) (v := ?_) (a' := ?_) #[true,true,true,true,false,false,false,false,false,false,false,false,false,false,false,false,false,false,false,false,false,false] rfl rfl (any_of HT_.out (by kernel_rfl)) (fun _ _ _ h => h) (Or.inl ⟨by rfl, ?_⟩) ?_ ?_;rotate_left
       ·intro w'
        go_simp
        with_reducible rfl
       rotate_left
       ·simp only [Act.put,List.setIfInBounds_toArray,List.set_cons_zero,List.set_cons_succ,i64_w,i32_w]
        rfl
       refine pure_ (i := 4) (N := some 35) (v := ?_) (a' := ?_) #[true,true,true,true,true,false,false,false,false,false,false,false,false,false,false,false,false,false,false,false,false,false] rfl rfl (any_of HT_.out (by kernel_rfl)) (fun _ _ _ h => h) (Or.inl ⟨by rfl, ?_⟩) ?_ ?_;rotate_left
       ·intro w'
        go_simp
        with_reducible rfl
       rotate_left
       ·simp only [Act.put,List.setIfInBounds_toArray,List.set_cons_zero,List.set_cons_succ,i64_w,i32_w]
        rfl
       refine pure_ (i := 6) (N := some 37) (v := ?_) (a' := ?_) #[true,true,true,true,true,false,true,false,false,false,false,false,false,false,false,false,false,false,false,false,false,false] rfl rfl (any_of HT_.out (by kernel_rfl)) (fun _ _ _ h => h) (Or.inl ⟨by rfl, ?_⟩) ?_ ?_;rotate_left
       ·intro w'
        go_simp
        with_reducible rfl
       rotate_left
       ·simp only [Act.put,List.setIfInBounds_toArray,List.set_cons_zero,List.set_cons_succ,i64_w,i32_w]
        rfl
       refine pure_ (i := 7) (N := some 38) (v := ?_) (a' := ?_) #[true,true,true,true,true,false,true,true,false,false,false,false,false,false,false,false,false,false,false,false,false,false] rfl rfl (any_of HT_.out (by kernel_rfl)) (fun _ _ _ h => h) (Or.inl ⟨by rfl, ?_⟩) ?_ ?_;rotate_left
       ·intro w'
        go_simp
        with_reducible rfl
       rotate_left
       ·simp only [Act.put,List.setIfInBounds_toArray,List.set_cons_zero,List.set_cons_succ,i64_w,i32_w]
        rfl
       refine take_ (i := 5) (N := some 36) (v := ?_) (a' := ?_) #[true,true,true,true,true,true,true,true,false,false,false,false,false,false,false,false,false,false,false,false,false,false] rfl rfl (take_ofW HT_.out HW_.out (by kernel_rfl)) (fun _ _ _ h => h) (Or.inl ⟨by rfl, ?_⟩) hHeld ?_ ?_;rotate_left
       ·rintro w' ⟨s0,s1,s2,s3,s4⟩
        go_simp
        with_reducible rfl
       rotate_left
       ·simp only [Act.put,List.setIfInBounds_toArray,List.set_cons_zero,List.set_cons_succ,i64_w,i32_w]
        rfl
       refine pure_ (i := 8) (N := some 39) (v := ?_) (a' := ?_) #[true,true,true,true,true,true,true,true,true,false,false,false,false,false,false,false,false,false,false,false,false,false] rfl rfl (any_of HT_.out (by kernel_rfl)) (fun _ _ _ h => h) (Or.inl ⟨by rfl, ?_⟩) ?_ ?_;rotate_left
       ·intro w'
        go_simp
        with_reducible rfl
       rotate_left
       ·simp only [Act.put,List.setIfInBounds_toArray,List.set_cons_zero,List.set_cons_succ,i64_w,i32_w]
        rfl
       refine pure_ (i := 9) (N := some 40) (v := ?_) (a' := ?_) #[true,true,true,true,true,true,true,true,true,true,false,false,false,false,false,false,false,false,false,false,false,false] rfl rfl (any_of HT_.out (by kernel_rfl)) (fun _ _ _ h => h) (Or.inl ⟨by rfl, ?_⟩) ?_ ?_;rotate_left
       ·intro w'
        go_simp
        with_reducible rfl
       rotate_left
       ·simp only [Act.put,List.setIfInBounds_toArray,List.set_cons_zero,List.set_cons_succ,i64_w,i32_w]
        rfl
       refine pure_ (i := 10) (N := some 41) (v := ?_) (a' := ?_) #[true,true,true,true,true,true,true,true,true,true,true,false,false,false,false,false,false,false,false,false,false,false] rfl rfl (any_of HT_.out (by kernel_rfl)) (fun _ _ _ h => h) (Or.inl ⟨by rfl, ?_⟩) ?_ ?_;rotate_left
       ·intro w'
        go_simp
        with_reducible rfl
       rotate_left
       ·simp only [Act.put,List.setIfInBounds_toArray,List.set_cons_zero,List.set_cons_succ,i64_w,i32_w]
        rfl
       refine pure_ (i := 11) (N := some 42) (v := undef) (a' := ?_) #[true,true,true,true,true,true,true,true,true,true,true,true,false,false,false,false,false,false,false,false,false,false] rfl rfl (any_of HT_.out (by kernel_rfl)) (fun _ _ _ h => h) (Or.inr ⟨by rfl,rfl⟩) ?_ ?_;rotate_left
       ·simp only [Act.put,List.setIfInBounds_toArray,List.set_cons_zero,List.set_cons_succ,i64_w,i32_w]
        rfl
       refine pure_ (i := 12) (N := some 43) (v := undef) (a' := ?_) #[true,true,true,true,true,true,true,true,true,true,true,true,true,false,false,false,false,false,false,false,false,false] rfl rfl (any_of HT_.out (by kernel_rfl)) (fun _ _ _ h => h) (Or.inr ⟨by rfl,rfl⟩) ?_ ?_;rotate_left
       ·simp only [Act.put,List.setIfInBounds_toArray,List.set_cons_zero,List.set_cons_succ,i64_w,i32_w]
        rfl
       refine pure_ (i := 13) (N := some 44) (v := undef) (a' := ?_) #[true,true,true,true,true,true,true,true,true,true,true,true,true,true,false,false,false,false,false,false,false,false] rfl rfl (any_of HT_.out (by kernel_rfl)) (fun _ _ _ h => h) (Or.inr ⟨by rfl,rfl⟩) ?_ ?_;rotate_left
       ·simp only [Act.put,List.setIfInBounds_toArray,List.set_cons_zero,List.set_cons_succ,i64_w,i32_w]
        rfl
       refine pure_ (i := 14) (N := some 45) (v := undef) (a' := ?_) #[true,true,true,true,true,true,true,true,true,true,true,true,true,true,true,false,false,false,false,false,false,false] rfl rfl (any_of HT_.out (by kernel_rfl)) (fun _ _ _ h => h) (Or.inr ⟨by rfl,rfl⟩) ?_ ?_;rotate_left
       ·simp only [Act.put,List.setIfInBounds_toArray,List.set_cons_zero,List.set_cons_succ,i64_w,i32_w]
        rfl
       refine pure_ (i := 15) (N := some 46) (v := undef) (a' := ?_) #[true,true,true,true,true,true,true,true,true,true,true,true,true,true,true,true,false,false,false,false,false,false] rfl rfl (any_of HT_.out (by kernel_rfl)) (fun _ _ _ h => h) (Or.inr ⟨by rfl,rfl⟩) ?_ ?_;rotate_left
       ·simp only [Act.put,List.setIfInBounds_toArray,List.set_cons_zero,List.set_cons_succ,i64_w,i32_w]
        rfl
       refine pure_ (i := 16) (N := some 47) (v := undef) (a' := ?_) #[true,true,true,true,true,true,true,true,true,true,true,true,true,true,true,true,true,false,false,false,false,false] rfl rfl (any_of HT_.out (by kernel_rfl)) (fun _ _ _ h => h) (Or.inr ⟨by rfl,rfl⟩) ?_ ?_;rotate_left
       ·simp only [Act.put,List.setIfInBounds_toArray,List.set_cons_zero,List.set_cons_succ,i64_w,i32_w]
        rfl
       refine pure_ (i := 17) (N := some 48) (v := undef) (a' := ?_) #[true,true,true,true,true,true,true,true,true,true,true,true,true,true,true,true,true,true,false,false,false,false] rfl rfl (any_of HT_.out (by kernel_rfl)) (fun _ _ _ h => h) (Or.inr ⟨by rfl,rfl⟩) ?_ ?_;rotate_left
       ·simp only [Act.put,List.setIfInBounds_toArray,List.set_cons_zero,List.set_cons_succ,i64_w,i32_w]
        rfl
       refine pure_ (i := 18) (N := some 49) (v := undef) (a' := ?_) #[true,true,true,true,true,true,true,true,true,true,true,true,true,true,true,true,true,true,true,false,false,false] rfl rfl (any_of HT_.out (by kernel_rfl)) (fun _ _ _ h => h) (Or.inr ⟨by rfl,rfl⟩) ?_ ?_;rotate_left
       ·simp only [Act.put,List.setIfInBounds_toArray,List.set_cons_zero,List.set_cons_succ,i64_w,i32_w]
        rfl
       refine pure_ (i := 19) (N := some 50) (v := undef) (a' := ?_) #[true,true,true,true,true,true,true,true,true,true,true,true,true,true,true,true,true,true,true,true,false,false] rfl rfl (any_of HT_.out (by kernel_rfl)) (fun _ _ _ h => h) (Or.inr ⟨by rfl,rfl⟩) ?_ ?_;rotate_left
       ·simp only [Act.put,List.setIfInBounds_toArray,List.set_cons_zero,List.set_cons_succ,i64_w,i32_w]
        rfl
       refine pure_ (i := 20) (N := some 51) (v := undef) (a' := ?_) #[true,true,true,true,true,true,true,true,true,true,true,true,true,true,true,true,true,true,true,true,true,false] rfl rfl (any_of HT_.out (by kernel_rfl)) (fun _ _ _ h => h) (Or.inr ⟨by rfl,rfl⟩) ?_ ?_;rotate_left
       ·simp only [Act.put,List.setIfInBounds_toArray,List.set_cons_zero,List.set_cons_succ,i64_w,i32_w]
        rfl
       refine pure_ (i := 21) (N := some 52) (v := ?_) (a' := ?_) #[true,true,true,true,true,true,true,true,true,true,true,true,true,true,true,true,true,true,true,true,true,true] rfl rfl (any_of HT_.out (by kernel_rfl)) (fun _ _ _ h => h) (Or.inl ⟨by rfl, ?_⟩) ?_ ?_;rotate_left
       ·intro w'
        go_simp
        with_reducible rfl
       rotate_left
       ·simp only [Act.put,List.setIfInBounds_toArray,List.set_cons_zero,List.set_cons_succ,i64_w,i32_w]
        rfl
       refine done_ (done_of HT_.out (by kernel_rfl)) ?_;try go_wp2
       go_meet
       case rel => exact ⟨_,(true),(by first | rfl | (simp;done) | (simp [*];done)),H',⟨by have := HJ5.out;have := HK2.out;first | omega | exact Nat.le_refl _⟩,⟨by (with_reducible repeat (first | refine blk_drewN ?_ _ | refine blk_drew ?_ | refine blk_alloc ?_ _));exact BK423.out⟩,⟨by repeat (first | (with_reducible first | exact HB.out | apply below_alloc | apply pw_below_drewN | apply below_drew1 | refine below_set ?_ GE423.out) | exact HB.out)⟩⟩
      rw [if_neg c26] at H;have c26b0 : decide ((l1.length : Int) < a0_0) = false := decide_eq_false c26;clear c26;obtain ⟨ji28,hji28⟩ : ∃ j_ : Int,(wrap64 (a0_0 - 1)) = j_ := ⟨_,rfl⟩;replace H : (if 0 ≤ (ji28) then (if (ji28) < (l1.length : Int) then ((rela_may.f k2 a0_0 a0_1 a0_2 a0_3 a0_4 ((rd_T72 l1 (ji28)).f0) ((rd_T72 l1 (ji28)).f1) ((rd_T72 l1 (ji28)).f2) ((rd_T72 l1 (ji28)).f3) a2).bind fun t428 => (rela_Check.j2 k2 (!t428))) else (none)) else (none)) = some r := by first | (rw [hji28] at H;exact H) | (simp only [hji28] at H ⊢;exact H)
      have hji28w : (IntKind.i64.wrap (a0_0 - 1)) = ji28 := (i64_w _).trans hji28
      by_cases c29 : 0 ≤ (ji28)
      ·rw [if_pos c29] at H
       have c29b0 : decide (0 ≤ (ji28)) = true := decide_eq_true c29;clear c29
       by_cases c30 : (ji28) < (l1.length : Int)
       ·rw [if_pos c30] at H
        have c30b0 : decide ((ji28) < (l1.length : Int)) = true := decide_eq_true c30;clear c30;replace H := Option.bind_eq_some_iff.mp H;obtain ⟨t428,A310,H⟩ := H;replace H : (rela_Check.j2 k2 (!t428)) = some r := H;have A31 := am0 A310;clear A310;have H' := am0 H;clear H;try go_wp2
        have n0_ := am0 (blk_drew BK423.out);have n1_ := am0 (below_drew1 HB.out);clear BK423;clear HB;have BK423 := n0_;have HB := n1_;clear n0_ n1_;have p427 : 0 ≤ ((ji28) : Int) := of_decide_eq_true (by first | (with_reducible assumption) | assumption);have q427 : (ji28) < (l1.length : Int) := of_decide_eq_true (by first | (with_reducible assumption) | assumption);obtain ⟨ad427,A427_2,c427_2,e427,hx427_0,hx427_1,hx427_2,hx427_3,hl427_2,hi427_2⟩ := at_T72 HR1.out (ji28) p427 q427;have hw427_3 := hx427_3;have hw427_2 := hx427_2;have hw427_1 := hx427_1;have hw427_0 := hx427_0;cases e427;replace hx427_0 := (HB.out.cell (World.block_lt_of_cell? w _ hx427_0)).trans hx427_0;replace hx427_1 := (HB.out.cell (World.block_lt_of_cell? w _ hx427_1)).trans hx427_1;replace hx427_2 := (HB.out.cell (World.block_lt_of_cell? w _ hx427_2)).trans hx427_2;replace hx427_3 := (HB.out.cell (World.block_lt_of_cell? w _ hx427_3)).trans hx427_3;have HR427_2 := am0 hi427_2;have HC427_2 := am0 hl427_2;clear hi427_2 hl427_2;replace p427 := eq_true p427;replace q427 := eq_true q427;refine start_ (n := 22) (S := fun w' => w'.cell? ⟨gb423,0,none⟩ = some (.int .i64 a0_0) ∧ w'.cell? ⟨gb423,1,none⟩ = some (.int .i64 a0_1) ∧ w'.cell? ⟨gb423,2,none⟩ = some (.int .u8 a0_2) ∧ w'.cell? ⟨gb423,3,none⟩ = some (.int .i64 a0_3) ∧ w'.cell? ⟨gb423,4,none⟩ = some (.int .i64 a0_4) ∧ w'.cell? (ad427.add (((ji28)).toNat * 4)) = some (.string ((rd_T72 l1 (ji28)).f0)) ∧ w'.cell? ⟨(ad427.add (((ji28)).toNat * 4)).block,(ad427.add (((ji28)).toNat * 4)).off + 1,none⟩ = some (.int .i64 ((rd_T72 l1 (ji28)).f1)) ∧ w'.cell? ⟨(ad427.add (((ji28)).toNat * 4)).block,(ad427.add (((ji28)).toNat * 4)).off + 2,none⟩ = some (.slice A427_2 ((rd_T72 l1 (ji28)).f2).length c427_2) ∧ w'.cell? ⟨(ad427.add (((ji28)).toNat * 4)).block,(ad427.add (((ji28)).toNat * 4)).off + 3,none⟩ = some (.int .i64 ((rd_T72 l1 (ji28)).f3))) (ds := []) #[false,false,false,false,false,false,false,false,false,false,false,false,false,false,false,false,false,false,false,false,false,false] (by kernel_rfl) rfl rfl ⟨(blk_cell BK423.out 0).trans rfl,(blk_cell BK423.out 1).trans rfl,(blk_cell BK423.out 2).trans rfl,(blk_cell BK423.out 3).trans rfl,(blk_cell BK423.out 4).trans rfl,((HB.out.cell (World.block_lt_of_cell? w _ hw427_0)).trans hw427_0),((HB.out.cell (World.block_lt_of_cell? w _ hw427_1)).trans hw427_1),((HB.out.cell (World.block_lt_of_cell? w _ hw427_2)).trans hw427_2),((HB.out.cell (World.block_lt_of_cell? w _ hw427_3)).trans hw427_3)⟩ (fun hHeld => ?_);refine with_tabW rela_Check.tab12 rela_Check.bits12 (fun HT_ HW_ => ?_);generalize wr.drew = w32 at BK423 HB HR427_2 hx427_0 hx427_1 hx427_2 hx427_3 hHeld ⊢;refine pure_ (i := 0) (N := some 31) (v := ?_) (a' := ?_) #[true,false,false,false,false,false,false,false,false,false,false,false,false,false,false,false,false,false,false,false,false,false] rfl rfl (any_of HT_.out (by kernel_rfl)) (fun _ _ _ h => h) (Or.inl ⟨by rfl, ?_⟩) ?_ ?_;rotate_left
        ·intro w'
         go_simp
         with_reducible rfl
        rotate_left
        ·simp only [Act.put,List.setIfInBounds_toArray,List.set_cons_zero,List.set_cons_succ,i64_w,i32_w]
         rfl
        refine take_ (i := 1) (N := some 32) (v := ?_) (a' := ?_) #[true,true,false,false,false,false,false,false,false,false,false,false,false,false,false,false,false,false,false,false,false,false] rfl rfl (take_ofW HT_.out HW_.out (by kernel_rfl)) (fun _ _ _ h => h) (Or.inl ⟨by rfl, ?_⟩) hHeld ?_ ?_;rotate_left
        ·rintro w' ⟨s0,s1,s2,s3,s4,s5,s6,s7,s8⟩
         go_simp
         with_reducible rfl
        rotate_left
        ·simp only [Act.put,List.setIfInBounds_toArray,List.set_cons_zero,List.set_cons_succ,i64_w,i32_w]
         rfl
        refine pure_ (i := 2) (N := some 33) (v := ?_) (a' := ?_) #[true,true,true,false,false,false,false,false,false,false,false,false,false,false,false,false,false,false,false,false,false,false] rfl rfl (any_of HT_.out (by kernel_rfl)) (fun _ _ _ h => h) (Or.inl ⟨by rfl, ?_⟩) ?_ ?_;rotate_left
        ·intro w'
         go_simp
         with_reducible rfl
        rotate_left
        ·simp only [Act.put,List.setIfInBounds_toArray,List.set_cons_zero,List.set_cons_succ,i64_w,i32_w]
         rfl
        refine pure_ (i := 3) (N := some 34) (v := ?_) (a' := ?_) #[true,true,true,true,false,false,false,false,false,false,false,false,false,false,false,false,false,false,false,false,false,false] rfl rfl (any_of HT_.out (by kernel_rfl)) (fun _ _ _ h => h) (Or.inl ⟨by rfl, ?_⟩) ?_ ?_;rotate_left
        ·intro w'
         go_simp
         with_reducible rfl
        rotate_left
        ·simp only [Act.put,List.setIfInBounds_toArray,List.set_cons_zero,List.set_cons_succ,i64_w,i32_w]
         rfl
        refine pure_ (i := 4) (N := some 35) (v := ?_) (a' := ?_) #[true,true,true,true,true,false,false,false,false,false,false,false,false,false,false,false,false,false,false,false,false,false] rfl rfl (any_of HT_.out (by kernel_rfl)) (fun _ _ _ h => h) (Or.inl ⟨by rfl, ?_⟩) ?_ ?_;rotate_left
        ·intro w'
         go_simp
         with_reducible rfl
        rotate_left
        ·simp only [Act.put,List.setIfInBounds_toArray,List.set_cons_zero,List.set_cons_succ,i64_w,i32_w]
         rfl
        refine pure_ (i := 6) (N := some 37) (v := ?_) (a' := ?_) #[true,true,true,true,true,false,true,false,false,false,false,false,false,false,false,false,false,false,false,false,false,false] rfl rfl (any_of HT_.out (by kernel_rfl)) (fun _ _ _ h => h) (Or.inl ⟨by rfl, ?_⟩) ?_ ?_;rotate_left
        ·intro w'
         go_simp
         with_reducible rfl
        rotate_left
        ·simp only [Act.put,List.setIfInBounds_toArray,List.set_cons_zero,List.set_cons_succ,i64_w,i32_w]
         rfl
        refine pure_ (i := 7) (N := some 38) (v := ?_) (a' := ?_) #[true,true,true,true,true,false,true,true,false,false,false,false,false,false,false,false,false,false,false,false,false,false] rfl rfl (any_of HT_.out (by kernel_rfl)) (fun _ _ _ h => h) (Or.inl ⟨by rfl, ?_⟩) ?_ ?_;rotate_left
        ·intro w'
         go_simp
         with_reducible rfl
        rotate_left
        ·simp only [Act.put,List.setIfInBounds_toArray,List.set_cons_zero,List.set_cons_succ,i64_w,i32_w]
         rfl
        refine take_ (i := 5) (N := some 36) (v := ?_) (a' := ?_) #[true,true,true,true,true,true,true,true,false,false,false,false,false,false,false,false,false,false,false,false,false,false] rfl rfl (take_ofW HT_.out HW_.out (by kernel_rfl)) (fun _ _ _ h => h) (Or.inl ⟨by rfl, ?_⟩) hHeld ?_ ?_;rotate_left
        ·rintro w' ⟨s0,s1,s2,s3,s4,s5,s6,s7,s8⟩
         go_simp
         with_reducible rfl
        rotate_left
        ·simp only [Act.put,List.setIfInBounds_toArray,List.set_cons_zero,List.set_cons_succ,i64_w,i32_w]
         rfl
        refine pure_ (i := 8) (N := some 39) (v := ?_) (a' := ?_) #[true,true,true,true,true,true,true,true,true,false,false,false,false,false,false,false,false,false,false,false,false,false] rfl rfl (any_of HT_.out (by kernel_rfl)) (fun _ _ _ h => h) (Or.inl ⟨by rfl, ?_⟩) ?_ ?_;rotate_left
        ·intro w'
         go_simp
         with_reducible rfl
        rotate_left
        ·simp only [Act.put,List.setIfInBounds_toArray,List.set_cons_zero,List.set_cons_succ,i64_w,i32_w]
         rfl
        refine pure_ (i := 9) (N := some 40) (v := ?_) (a' := ?_) #[true,true,true,true,true,true,true,true,true,true,false,false,false,false,false,false,false,false,false,false,false,false] rfl rfl (any_of HT_.out (by kernel_rfl)) (fun _ _ _ h => h) (Or.inl ⟨by rfl, ?_⟩) ?_ ?_;rotate_left
        ·intro w'
         go_simp
         with_reducible rfl
        rotate_left
        ·simp only [Act.put,List.setIfInBounds_toArray,List.set_cons_zero,List.set_cons_succ,i64_w,i32_w]
         rfl
        refine pure_ (i := 10) (N := some 41) (v := ?_) (a' := ?_) #[true,true,true,true,true,true,true,true,true,true,true,false,false,false,false,false,false,false,false,false,false,false] rfl rfl (any_of HT_.out (by kernel_rfl)) (fun _ _ _ h => h) (Or.inl ⟨by rfl, ?_⟩) ?_ ?_;rotate_left
        ·intro w'
         go_simp
         with_reducible rfl
        rotate_left
        ·simp only [Act.put,List.setIfInBounds_toArray,List.set_cons_zero,List.set_cons_succ,i64_w,i32_w]
         rfl
        refine pure_ (i := 12) (N := some 43) (v := ?_) (a' := ?_) #[true,true,true,true,true,true,true,true,true,true,true,false,true,false,false,false,false,false,false,false,false,false] rfl rfl (any_of HT_.out (by kernel_rfl)) (fun _ _ _ h => h) (Or.inl ⟨by rfl, ?_⟩) ?_ ?_;rotate_left
        ·intro w'
         go_simp
         with_reducible rfl
        rotate_left
        ·simp only [Act.put,List.setIfInBounds_toArray,List.set_cons_zero,List.set_cons_succ,i64_w,i32_w]
         rfl
        refine pure_ (i := 13) (N := some 44) (v := ?_) (a' := ?_) #[true,true,true,true,true,true,true,true,true,true,true,false,true,true,false,false,false,false,false,false,false,false] rfl rfl (any_of HT_.out (by kernel_rfl)) (fun _ _ _ h => h) (Or.inl ⟨by rfl, ?_⟩) ?_ ?_;rotate_left
        ·intro w'
         go_simp
         with_reducible rfl
        rotate_left
        ·simp only [Act.put,List.setIfInBounds_toArray,List.set_cons_zero,List.set_cons_succ,i64_w,i32_w]
         rfl
        refine pure_ (i := 18) (N := some 49) (v := ?_) (a' := ?_) #[true,true,true,true,true,true,true,true,true,true,true,false,true,true,false,false,false,false,true,false,false,false] rfl rfl (any_of HT_.out (by kernel_rfl)) (fun _ _ _ h => h) (Or.inl ⟨by rfl, ?_⟩) ?_ ?_;rotate_left
        ·intro w'
         go_simp
         with_reducible rfl
        rotate_left
        ·simp only [Act.put,List.setIfInBounds_toArray,List.set_cons_zero,List.set_cons_succ,i64_w,i32_w]
         rfl
        refine take_ (i := 11) (N := some 42) (v := ?_) (a' := ?_) #[true,true,true,true,true,true,true,true,true,true,true,true,true,true,false,false,false,false,true,false,false,false] rfl rfl (take_ofW HT_.out HW_.out (by kernel_rfl)) (fun _ _ _ h => h) (Or.inl ⟨by rfl, ?_⟩) hHeld ?_ ?_;rotate_left
        ·rintro w' ⟨s0,s1,s2,s3,s4,s5,s6,s7,s8⟩
         go_simp
         with_reducible rfl
        rotate_left
        ·simp only [Act.put,List.setIfInBounds_toArray,List.set_cons_zero,List.set_cons_succ,i64_w,i32_w]
         rfl
        refine take_ (i := 14) (N := some 45) (v := ?_) (a' := ?_) #[true,true,true,true,true,true,true,true,true,true,true,true,true,true,true,false,false,false,true,false,false,false] rfl rfl (take_ofW HT_.out HW_.out (by kernel_rfl)) (fun _ _ _ h => h) (Or.inl ⟨by rfl, ?_⟩) hHeld ?_ ?_;rotate_left
        ·rintro w' ⟨s0,s1,s2,s3,s4,s5,s6,s7,s8⟩
         go_simp
         with_reducible rfl
        rotate_left
        ·simp only [Act.put,List.setIfInBounds_toArray,List.set_cons_zero,List.set_cons_succ,i64_w,i32_w]
         rfl
        refine pure_ (i := 15) (N := some 46) (v := ?_) (a' := ?_) #[true,true,true,true,true,true,true,true,true,true,true,true,true,true,true,true,false,false,true,false,false,false] rfl rfl (any_of HT_.out (by kernel_rfl)) (fun _ _ _ h => h) (Or.inl ⟨by rfl, ?_⟩) ?_ ?_;rotate_left
        ·intro w'
         go_simp
         with_reducible rfl
        rotate_left
        ·simp only [Act.put,List.setIfInBounds_toArray,List.set_cons_zero,List.set_cons_succ,i64_w,i32_w]
         rfl
        refine pure_ (i := 16) (N := some 47) (v := ?_) (a' := ?_) #[true,true,true,true,true,true,true,true,true,true,true,true,true,true,true,true,true,false,true,false,false,false] rfl rfl (any_of HT_.out (by kernel_rfl)) (fun _ _ _ h => h) (Or.inl ⟨by rfl, ?_⟩) ?_ ?_;rotate_left
        ·intro w'
         go_simp
         with_reducible rfl
        rotate_left
        ·simp only [Act.put,List.setIfInBounds_toArray,List.set_cons_zero,List.set_cons_succ,i64_w,i32_w]
         rfl
        refine take_ (i := 17) (N := some 48) (v := ?_) (a' := ?_) #[true,true,true,true,true,true,true,true,true,true,true,true,true,true,true,true,true,true,true,false,false,false] rfl rfl (take_ofW HT_.out HW_.out (by kernel_rfl)) (fun _ _ _ h => h) (Or.inl ⟨by rfl, ?_⟩) hHeld ?_ ?_;rotate_left
        ·rintro w' ⟨s0,s1,s2,s3,s4,s5,s6,s7,s8⟩
         go_simp
         with_reducible rfl
        rotate_left
        ·simp only [Act.put,List.setIfInBounds_toArray,List.set_cons_zero,List.set_cons_succ,i64_w,i32_w]
         rfl
        refine one_ (i := 19) (N := some 50) #[true,true,true,true,true,true,true,true,true,true,true,true,true,true,true,true,true,true,true,true,false,false] rfl rfl (one_of HT_.out (by kernel_rfl)) (by decide) (fun K hK => ?_);refine goes_ Tryd.func63 (by kernel_rfl) rfl #[.agg #[.int .i64 a0_0, .int .i64 a0_1, .int .u8 a0_2, .int .i64 a0_3, .int .i64 a0_4], .agg #[.string ((rd_T72 l1 (ji28)).f0), .int .i64 ((rd_T72 l1 (ji28)).f1), .slice A427_2 ((rd_T72 l1 (ji28)).f2).length c427_2, .int .i64 ((rd_T72 l1 (ji28)).f3)], .int .i64 a2] (by rfl) rfl rfl (by (try simp only [List.map_toArray,List.map_cons,List.map_nil]);first | done | (simp only [hji28];rfl) | rfl | (simp only [List.length_drop,List.length_take];rfl)) ?_
        with_reducible refine (rela_may.calls k2 a0_0 a0_1 a0_2 a0_3 a0_4 ((rd_T72 l1 (ji28)).f0) ((rd_T72 l1 (ji28)).f1) _ _ ((rd_T72 l1 (ji28)).f2) ((rd_T72 l1 (ji28)).f3) a2 t428 _ ?side1 ?side2 A31.out).mono ?_
        (case side1 => repeat (first | exact (Kd.C_below HR427_2.out HB.out) | (with_reducible refine Kd.C_alloc ?_ _) | (with_reducible refine Kd.C_drewN ?_ _) | (with_reducible refine Kd.C_drew ?_)))
        (case side2 => exact HC427_2.out)
        rintro e w33 ⟨rfl,hb⟩
        refine ⟨_,rfl, ?_⟩;have n0_ := am0 (blk_below (g := gb423) (o := .cells #[.int .i64 a0_0, .int .i64 a0_1, .int .u8 a0_2, .int .i64 a0_3, .int .i64 a0_4] 94 (0,0)) (by (with_reducible repeat (first | refine blk_drewN ?_ _ | refine blk_drew ?_ | refine blk_alloc ?_ _));exact BK423.out) hb);have n1_ := am0 (below_step (by repeat (first | (with_reducible first | exact HB.out | apply below_alloc | apply pw_below_drewN | apply below_drew1 | refine below_set ?_ GE423.out) | exact HB.out)) hb);clear BK423;clear HB;have BK423 := n0_;have HB := n1_;clear n0_ n1_
        (try clear hb)
        (try clear hb2)
        (try clear hk)
        (try clear hi)
        refine hK.out _ _ ⟨(blk_cell BK423.out 0).trans rfl,(blk_cell BK423.out 1).trans rfl,(blk_cell BK423.out 2).trans rfl,(blk_cell BK423.out 3).trans rfl,(blk_cell BK423.out 4).trans rfl,((HB.out.cell (World.block_lt_of_cell? w _ hw427_0)).trans hw427_0),((HB.out.cell (World.block_lt_of_cell? w _ hw427_1)).trans hw427_1),((HB.out.cell (World.block_lt_of_cell? w _ hw427_2)).trans hw427_2),((HB.out.cell (World.block_lt_of_cell? w _ hw427_3)).trans hw427_3)⟩ (fun hHeld => ?_);clear hK K;refine norm_ (a' := ?_) ?_ ?_;rotate_left
        ·show Act.put _ (some 50) _ = _
         simp only [Act.put,List.setIfInBounds_toArray,List.set_cons_zero,List.set_cons_succ,i64_w,i32_w];rfl
        refine pure_ (i := 20) (N := some 51) (v := ?_) (a' := ?_) #[true,true,true,true,true,true,true,true,true,true,true,true,true,true,true,true,true,true,true,true,true,false] rfl rfl (any_of HT_.out (by kernel_rfl)) (fun _ _ _ h => h) (Or.inl ⟨by rfl, ?_⟩) ?_ ?_;rotate_left
        ·intro w'
         go_simp
         with_reducible rfl
        rotate_left
        ·simp only [Act.put,List.setIfInBounds_toArray,List.set_cons_zero,List.set_cons_succ,i64_w,i32_w]
         rfl
        refine pure_ (i := 21) (N := some 52) (v := ?_) (a' := ?_) #[true,true,true,true,true,true,true,true,true,true,true,true,true,true,true,true,true,true,true,true,true,true] rfl rfl (any_of HT_.out (by kernel_rfl)) (fun _ _ _ h => h) (Or.inl ⟨by rfl, ?_⟩) ?_ ?_;rotate_left
        ·intro w'
         go_simp
         with_reducible rfl
        rotate_left
        ·simp only [Act.put,List.setIfInBounds_toArray,List.set_cons_zero,List.set_cons_succ,i64_w,i32_w]
         rfl
        refine done_ (done_of HT_.out (by kernel_rfl)) ?_;try go_wp2
        go_meet
        case rel => exact ⟨_,(!t428),(by first | rfl | (simp;done) | (simp [*];done)),H',⟨by have := HJ5.out;have := HK2.out;first | omega | exact Nat.le_refl _⟩,⟨by (with_reducible repeat (first | refine blk_drewN ?_ _ | refine blk_drew ?_ | refine blk_alloc ?_ _));exact BK423.out⟩,⟨by repeat (first | (with_reducible first | exact HB.out | apply below_alloc | apply pw_below_drewN | apply below_drew1 | refine below_set ?_ GE423.out) | exact HB.out)⟩⟩
       rw [if_neg c30] at H;exact absurd H (by simp)
      rw [if_neg c29] at H;exact absurd H (by simp)
     case rest =>
      clear HC23;try clear c1
      try clear c2
      try clear p2
      try clear c3
      try clear c4
      try clear p4
      try clear q4
      try clear hx4
      try clear c6
      try clear p6
      try clear c10
      try clear c10b0
      try clear c11
      try clear c12
      try clear c14
      try clear c14b0
      try clear c14b1
      try clear c16
      try clear c20
      try clear c24
      try clear c24b0
      try clear c26
      try clear c26b0
      try clear c29
      try clear c29b0
      try clear c30
      try clear c30b0
      try clear c33
      try clear hcz17_0
      try clear hcz17_1
      try clear hcz17_2
      try clear hcz17_3
      try clear hcz21_0
      try clear hcz21_1
      try clear hcz21_2
      try clear hcz21_3
      try clear hfz17_0
      try clear hfz17_1
      try clear hfz17_2
      try clear hfz17_3
      try clear hfz21_0
      try clear hfz21_1
      try clear hfz21_2
      try clear hfz21_3
      try clear hx424_0
      try clear hx424_1
      try clear hx424_2
      try clear hx424_3
      try clear hx427_0
      try clear hx427_1
      try clear hx427_2
      try clear hx427_3
      try clear p424
      try clear p427
      try clear q424
      try clear q427
      obtain ⟨kq,x52_22,rfl,HA,HJ22,BK423,HB⟩ := hcut
      cases kq with
      | zero => exact absurd HA.out (by simp [rela_Check.j2])
      | succ kj22 =>
       have H := HA.out;clear HA;simp only [rela_Check.j2] at H
       by_cases c34 : x52_22 = true
       ·subst c34
        have H1 : (some 8) = some r := by rw [if_pos rfl] at H;exact H
        clear H;have H := H1;clear H1;obtain rfl := Option.some.inj H;go_wp2
        go_ret
        exact ⟨by first | rfl | (simp [errW_none,errW_some] <;> rfl) | (simp [*,errW_none,errW_some] <;> rfl),by repeat (first | (with_reducible first | exact HB.out | apply below_alloc | apply pw_below_drewN | apply below_drew1 | refine below_set ?_ GE423.out) | exact HB.out)⟩
       replace c34 := Bool.eq_false_iff.mpr c34;subst c34;have H1 : (some 0) = some r := by rw [if_neg (show ¬ (false = true) by decide)] at H;exact H
       clear H;have H := H1;clear H1;obtain rfl := Option.some.inj H;go_wp2
       go_ret
       exact ⟨by first | rfl | (simp [errW_none,errW_some] <;> rfl) | (simp [*,errW_none,errW_some] <;> rfl),by repeat (first | (with_reducible first | exact HB.out | apply below_alloc | apply pw_below_drewN | apply below_drew1 | refine below_set ?_ GE423.out) | exact HB.out)⟩
end Go.Proofs.YtalomolellcefaaDoor.Q
namespace Go.Proofs.YtalomolellcefaaDoor.Q
open Go.RowKit Go.Proofs.YtalomolellcefaaDoorW.PrintWords
theorem w64 (n : Int) (h0 : -9223372036854775808 ≤ n) (h1 : n ≤ 9223372036854775807) : wrap64 n = n := by unfold wrap64;omega
def onesV (a : Int) : Int := (bits_OnesCount.f (IntKind.u64.wrap a)).getD 0
theorem ones_val (a : Int) : bits_OnesCount.f (IntKind.u64.wrap a) = some (onesV a) := by
 obtain ⟨v,hv⟩ : ∃ v,bits_OnesCount64.f (IntKind.u64.wrap a) = some v := ⟨_,rfl⟩;unfold onesV bits_OnesCount.f;rw [hv];rfl
def alignV (a : Int) : Bool := decide (0 < a) && decide (a ≤ 64) && (onesV a == 1)
def sectOwn (x : S72) : Int := if (kindF x.f0).1 = 4 then x.f3 else (x.f2.length : Int)
def sectOther (x : S72) : Int := if (kindF x.f0).1 = 4 then (x.f2.length : Int) else x.f3
def sectV (x : S72) : Bool := decide ((kindF x.f0).2 = 0) && alignV x.f1 && decide (sectOther x = 0) && decide (0 ≤ sectOwn x) && decide (sectOwn x ≤ 4096)
theorem sect_j1 (k : Nat) (x4 : Int) (x5 : Bool) (x6 x7 : Int) : sect_Check.j1 (k + 2) x4 x5 x6 x7 = some (if decide (x4 = 0) && x5 && decide (x7 = 0) && decide (0 ≤ x6) && decide (x6 ≤ 4096) then 0 else 8) := by
 simp only [sect_Check.j1,sect_Check.j2]
 by_cases c4 : x4 = 0
 ·cases x5
  ·simp [c4]
  by_cases c7 : x7 = 0
  ·by_cases c6 : x6 < 0
   ·have : ¬ 0 ≤ x6 := by omega
    simp [c4,c7,c6,this]
   have h0 : 0 ≤ x6 := by omega
   by_cases c8 : x6 ≤ 4096
   ·have : ¬ 4096 < x6 := by omega
    simp [c4,c7,c6,h0,c8,this]
   have : 4096 < x6 := by omega
   simp [c4,c7,c6,h0,c8,this]
  simp [c4,c7]
 simp [c4]
theorem sect_val (k : Nat) (x : S72) : sect_Check.f (k + 3) x.f0 x.f1 x.f2 x.f3 = some (if sectV x then 0 else 8) := by
 have h0 : sect_Kind.f x.f0 = some (kindF x.f0) := rfl
 have hj : ∀ b,sect_Check.j0 (k + 3) (kindF x.f0).1 (kindF x.f0).2 b x.f0 x.f1 x.f2 x.f3 = some (if decide ((kindF x.f0).2 = 0) && b && decide (sectOther x = 0) && decide (0 ≤ sectOwn x) && decide (sectOwn x ≤ 4096) then 0 else 8) := by
  intro b;simp only [sect_Check.j0,sect_j1,sectOther,sectOwn]
  by_cases c : (kindF x.f0).1 = 4
  ·simp only [if_pos c]
  simp only [if_neg c]
 unfold sect_Check.f;rw [h0,ones_val];simp only [Option.bind_some,hj,sectV,alignV]
 by_cases c1 : x.f1 > 0
 ·by_cases c2 : x.f1 ≤ 64
  ·have : 0 < x.f1 := c1
   simp [c1,c2]
  simp [c1,c2]
 have : ¬ 0 < x.f1 := c1;simp [c1]
theorem ba_loop (s : ByteArray) : ∀ n i r,i + n = s.size → ByteArray.toList.loop s i r = r.reverse ++ s.data.toList.drop i
 | 0,i,r,h => by
  rw [ByteArray.toList.loop,if_neg (by omega),List.drop_eq_nil_of_le (by rw [Array.length_toList];exact Nat.le_of_eq (by simpa using h.symm))];simp
 | n + 1,i,r,h => by
  have hi : i < s.data.toList.length := by rw [Array.length_toList];exact (show i < s.size by omega)
  rw [ByteArray.toList.loop,if_pos (by omega),ba_loop s n (i + 1) _ (by omega),List.drop_eq_getElem_cons hi]
  have : s.get! i = s.data.toList[i] := by
   rw [Array.getElem_toList];exact getElem!_pos s.data i (by simpa using hi)
  rw [this];simp
theorem ba_toList (s : ByteArray) : s.toList = s.data.toList := by
 have := ba_loop s s.size 0 [] (by omega);unfold ByteArray.toList;rw [this];rfl
theorem ba_nil (s : ByteArray) : s.toList = [] ↔ s.size = 0 := by
 rw [ba_toList, ← List.length_eq_zero_iff,Array.length_toList];rfl
def allR (p : Nat → Bool) (i n : Nat) : Bool := (List.range' i n).all p
theorem allR_zero (p : Nat → Bool) (i : Nat) : allR p i 0 = true := rfl
theorem allR_succ (p : Nat → Bool) (i n : Nat) : allR p i (n + 1) = (p i && allR p (i + 1) n) := by simp [allR,List.range'_succ]
def graphic (s : ByteArray) (i : Nat) : Bool := decide (33 ≤ bt s i) && decide (bt s i ≤ 126)
def namedV (s : ByteArray) : Bool := decide (s.size ≠ 0) && decide (s.size ≤ 32) && allR (graphic s) 0 s.size
theorem named_l0 (s : ByteArray) (hs : s.size ≤ 32) : ∀ n k i,i + n = s.size → sym_named.l0 (k + n + 1) s (s.size : Int) (i : Int) = some (allR (graphic s) i n)
 | 0,k,i,hi => by
  have : ¬ (i : Int) < (s.size : Int) := by omega
  simp [sym_named.l0,this,allR_zero]
 | n + 1,k,i,hi => by
  have h1 : (i : Int) < (s.size : Int) := by omega
  have h2 : (0 : Int) ≤ (i : Int) := by omega
  have h3 : wrap64 ((i : Int) + 1) = ((i + 1 : Nat) : Int) := by rw [w64] <;> omega
  have ih := named_l0 s hs n k (i + 1) (by omega);rw [show k + (n + 1) + 1 = (k + n + 1) + 1 by omega,sym_named.l0,allR_succ];simp only [if_pos h1,if_pos h2,h3,ih,graphic]
  by_cases c1 : bt s (i : Int) < 33
  ·have : ¬ 33 ≤ bt s (i : Int) := by omega
   simp [c1,this]
  have g1 : 33 ≤ bt s (i : Int) := by omega
  by_cases c2 : bt s (i : Int) > 126
  ·have : ¬ bt s (i : Int) ≤ 126 := by omega
   simp [c1,c2,g1,this]
  have g2 : bt s (i : Int) ≤ 126 := by omega
  simp [c1,c2,g1,g2]
theorem named_val (k : Nat) (s : ByteArray) : sym_named.f (k + 34) s = some (namedV s) := by
 unfold sym_named.f namedV;have hl := ba_nil s
 by_cases c0 : s.size = 0
 ·have hs : s.toList = [] := hl.2 c0
  rw [if_pos hs,show k + 34 = (k + 33) + 1 from rfl,sym_named.j0,if_pos rfl];simp only [c0];rfl
 have hs : ¬ s.toList = [] := fun h => c0 (hl.1 h)
 rw [if_neg hs,show k + 34 = (k + 33) + 1 from rfl,sym_named.j0]
 by_cases c1 : s.size ≤ 32
 ·have h1 : ¬ (s.size : Int) > 32 := by omega
  have := named_l0 s c1 s.size (k + 32 - s.size) 0 (by omega);rw [show k + 32 - s.size + s.size + 1 = k + 33 by omega] at this;simp only [h1,decide_false,Bool.false_eq_true,if_false];rw [show ((0 : Nat) : Int) = 0 from rfl] at this;rw [this];simp [c0,c1]
 have h1 : (s.size : Int) > 32 := by omega
 simp [h1,c1]
def inV (n a b : Int) : Bool := decide (a ≤ n) && decide (n ≤ b)
theorem in_val (n a b : Int) : sym_in.f n a b = some (inV n a b) := by
 unfold sym_in.f inV
 by_cases c : n ≥ a
 ·have : a ≤ n := c
  simp [c,this]
 have : ¬ a ≤ n := c;simp [c,this]
abbrev bssName : ByteArray := ⟨#[46,98,115,115]⟩
def standsV (s : S40) (n : Int) : Bool :=
 if 2 < s.f1 ∨ (s.f2 = true ∧ s.f1 = 0) then false
 else if s.f3 = 0 then decide (s.f1 ≠ 0) && decide (s.f4 = 0) && (s.f5 == 0)
 else if s.f3 = -1 then inV s.f4 (-2147483648) 4294967295 && (s.f5 == 0)
 else if s.f3 = -2 then sectV ⟨bssName,s.f4,[],0⟩ && inV s.f5 1 4096 && (s.f1 == 1)
 else inV s.f3 1 n && inV s.f4 0 4096 && inV s.f5 0 4096
theorem stands_j0 (k : Nat) (s : S40) (n : Int) (b : Bool) : sym_stands.j0 (k + 4) n (s.f1 == 0) b s.f0 s.f1 s.f2 s.f3 s.f4 s.f5 = some (if b then false
 else if s.f3 = 0 then decide (s.f1 ≠ 0) && decide (s.f4 = 0) && (s.f5 == 0)
 else if s.f3 = -1 then inV s.f4 (-2147483648) 4294967295 && (s.f5 == 0)
 else if s.f3 = -2 then sectV ⟨bssName,s.f4,[],0⟩ && inV s.f5 1 4096 && (s.f1 == 1)
 else inV s.f3 1 n && inV s.f4 0 4096 && inV s.f5 0 4096) := by
 have hS := sect_val k ⟨bssName,s.f4,[],0⟩;simp only at hS;rw [show k + 4 = (k + 3) + 1 from rfl,sym_stands.j0];simp only [in_val,hS,Option.bind_some];cases b
 ·by_cases c0 : s.f3 = 0
  ·by_cases c1 : s.f1 = 0 <;> by_cases c2 : s.f4 = 0 <;> simp [c0,c1,c2]
  by_cases c1 : s.f3 = -1
  ·cases inV s.f4 (-2147483648) 4294967295 <;> simp [c1]
  by_cases c2 : s.f3 = -2
  ·cases sectV ⟨bssName,s.f4,[],0⟩ <;> cases inV s.f5 1 4096 <;> simp [c2]
  cases inV s.f3 1 n <;> cases inV s.f4 0 4096 <;> simp [c0,c1,c2]
 simp
theorem stands_val (k : Nat) (s : S40) (n : Int) : sym_stands.f (k + 4) s.f0 s.f1 s.f2 s.f3 s.f4 s.f5 n = some (standsV s n) := by
 unfold sym_stands.f standsV;rw [stands_j0,stands_j0,stands_j0]
 by_cases c1 : s.f1 > 2
 ·have : 2 < s.f1 := c1
  simp [c1]
 have h2 : ¬ 2 < s.f1 := c1;cases hh : s.f2
 ·simp [c1]
 by_cases c2 : s.f1 = 0 <;> simp [c1,c2]
def symOk (s : S40) (n : Int) : Bool := inV n 0 16 && namedV s.f0 && standsV s n
def symV (s : S40) (n : Int) : Int := if inV n 0 16 then (if namedV s.f0 && standsV s n then 0 else 8) else 2
theorem sym_val (k : Nat) (s : S40) (n : Int) : sym_Check.f (k + 34) s.f0 s.f1 s.f2 s.f3 s.f4 s.f5 n = some (symV s n) := by
 have h := stands_val (k + 30) s n;unfold sym_Check.f symV;rw [in_val,named_val,show k + 34 = k + 30 + 4 from rfl,h];cases inV n 0 16 <;> cases namedV s.f0 <;> cases standsV s n <;> rfl
theorem symV_zero (s : S40) (n : Int) : symV s n = 0 ↔ symOk s n = true := by
 unfold symV symOk;cases inV n 0 16 <;> cases namedV s.f0 <;> cases standsV s n <;> simp
theorem symOk_pos {s : S40} {n : Int} (h : symOk s n = true) (hp : 0 < s.f3) : (s.f3 ≤ n ∧ n ≤ 16) ∧ (0 ≤ s.f4 ∧ s.f4 ≤ 4096) ∧ (0 ≤ s.f5 ∧ s.f5 ≤ 4096) := by
 unfold symOk standsV at h;have h0 : ¬ s.f3 = 0 := by omega
 have h1 : ¬ s.f3 = -1 := by omega
 have h2 : ¬ s.f3 = -2 := by omega
 simp only [if_neg h0,if_neg h1,if_neg h2,Bool.and_eq_true] at h;obtain ⟨⟨hn,_⟩,h⟩ := h;simp only [inV,Bool.and_eq_true,decide_eq_true_eq] at hn
 split at h
 ·cases h
 simp only [inV,Bool.and_eq_true,decide_eq_true_eq] at h;obtain ⟨⟨⟨_,a⟩,b⟩,c⟩ := h;exact ⟨⟨a,hn.2⟩,b,c⟩
theorem symOk_named {s : S40} {n : Int} (h : symOk s n = true) : s.f0.size ≤ 32 := by
 unfold symOk namedV at h;simp only [Bool.and_eq_true,decide_eq_true_eq] at h;exact h.1.2.1.2
end Go.Proofs.YtalomolellcefaaDoor.Q
namespace Go.Proofs.YtalomolellcefaaDoor.Maps
open Go
section
variable {P : Program} {ops : Array Oper} {md : Region.Mode} {S : World → Prop} {Q : Exit → Act → World → Prop}
def Gives (P : Program) (S : World → Prop) (v : Value) : Result Next → Prop
 | .ok (.value x) w' => x = v ∧ S w'
 | .ok .skip w' => v = undef ∧ S w'
 | .ok (.enter f args) w' => Calls P f args w' fun e w'' => e = .returned v ∧ S w''
 | _ => False
def GivesIf (P : Program) (ops : Array Oper) (S : World → Prop) (o : Oper) (v : Value) (a : Act) : Prop :=
 (Region.wanted o (yielded ops a.tmps) = true ∧ ∀ w,S w → Gives P S v ((execOp a.eval o).run P w)) ∨ (Region.wanted o (yielded ops a.tmps) = false ∧ v = undef)
theorem GivesIf.wpOp {i : Nat} {o : Oper} {v : Value} {a : Act} (hi : ops[i]? = some o) (hy : GivesIf P ops S o v a) {K : Act → World → Prop} {w : World} (hS : S w) (h : ∀ w',S w' → K (a.put o.dst v) w') : wpOp P ops Q i K a w := by
 unfold Go.wpOp;simp only [hi];rcases hy with ⟨hw,hv⟩ | ⟨hw,rfl⟩
 ·simp only [hw,if_true]
  refine .inl ?_;have := hv w hS;unfold Oper.wp;generalize (execOp a.eval o).run P w = r at this
  cases r with
  | ok n w' =>
   cases n <;> simp only [Gives] at this <;> simp only [Oper.upon]
   case value x => obtain ⟨rfl,h2⟩ := this;exact h _ h2
   case skip => obtain ⟨rfl,h2⟩ := this;exact h _ h2
   case enter f args =>
    refine Calls.mono this fun e w'' he => ?_
    obtain ⟨rfl,h2⟩ := he;exact h _ h2
  | halt x w' => simp only [Gives] at this
 simp only [hw,Bool.false_eq_true,if_false];exact h w hS
theorem GivesIf.of_same {o : Oper} {v : Value} {a a' : Act} (hy : GivesIf P ops S o v a) (he : execOp a'.eval o = execOp a.eval o)
  (hw : Region.wanted o (yielded ops a'.tmps) = Region.wanted o (yielded ops a.tmps)) : GivesIf P ops S o v a' := by
 unfold GivesIf at *;rw [he,hw];exact hy
def wpAnyU (P : Program) (md : Region.Mode) (ops : Array Oper) (S : World → Prop) (Z : Act → Prop) : Nat → Array Bool → Act → Prop
 | 0,listed,a => Region.ready md ops listed = [] ∧ Z a
 | fuel + 1,listed,a => (Region.ready md ops listed = [] → Z a) ∧ ∀ i ∈ Region.ready md ops listed, ∃ o v,ops[i]? = some o ∧ GivesIf P ops S o v a ∧ wpAnyU P md ops S Z fuel (listed.setIfInBounds i true) (a.put o.dst v)
theorem wpAny_of_U : ∀ (fuel : Nat) (listed : Array Bool) (a : Act),wpAnyU P md ops S (fun a => ∀ w,S w → Q .normal a w) fuel listed a → ∀ w,S w → wpAny P md ops Q fuel listed a w
 | 0,_,_,h,w,hS => ⟨h.1,h.2 w hS⟩
 | fuel + 1,_,_,h,w,hS => ⟨fun h0 => h.1 h0 w hS,fun i hi => by
  obtain ⟨o,v,ho,hg,hr⟩ := h.2 i hi;exact hg.wpOp ho hS (fun w' hS' => wpAny_of_U fuel _ _ hr w' hS')⟩
theorem wpAnyU_first {Z : Act → Prop} {i : Nat} {oi : Oper} {v : Value} (hi : ops[i]? = some oi) (hsel : ∀ (j : Nat) (o : Oper) cs b,ops[j]? = some o → o.op ≠ .select cs b) :
  ∀ (fuel : Nat) (listed : Array Bool) (a : Act),
   (∀ j oj,ops[j]? = some oj → j ≠ i → listed.getD j true = false → (∀ e ∈ oj.after,Region.binds md e = true → e.on ≠ i) → oi.apart ops oj = true) →
   i ∈ Region.ready md ops listed → GivesIf P ops S oi v a →
   wpAnyU P md ops S Z fuel (listed.setIfInBounds i true) (a.put oi.dst v) → wpAnyU P md ops S Z (fuel + 1) listed a := by
 intro fuel
 induction fuel with
 | zero =>
  intro listed a _ hr hy H;refine ⟨fun h => (by rw [h] at hr;cases hr),fun j hj => ?_⟩
  by_cases hji : j = i
  ·subst hji;exact ⟨oi,v,hi,hy,H⟩
  have := ready_mono hj hji;rw [H.1] at this;cases this
 | succ fuel ih =>
  intro listed a hfree hr hy H;refine ⟨fun h => (by rw [h] at hr;cases hr),fun j hj => ?_⟩
  by_cases hji : j = i
  ·subst hji;exact ⟨oi,v,hi,hy,H⟩
  obtain ⟨oj',u,hoj',hgj,hrest⟩ := H.2 j (ready_mono hj hji);obtain ⟨hjun,oj,hoj,hall⟩ := mem_ready.1 hj;have e' : oj = oj' := Option.some.inj (hoj.symm.trans hoj');subst e'
  have hnot : ∀ e ∈ oj.after,Region.binds md e = true → e.on ≠ i := fun e he hb heq => by
   have h1 := hall e he hb;have h0 := (mem_ready.1 hr).1;rw [heq] at h1;rcases Nat.lt_or_ge i listed.size with h' | h'
   ·simp [h'] at h0 h1;rw [h0] at h1;cases h1
   simp [Array.getElem?_eq_none h'] at h1
  obtain ⟨h1,h2,h3⟩ := Oper.apart_spec (hfree j oj hoj hji hjun hnot);have hsi := fun cs b => hsel i oi cs b hi
  have hsj := fun cs b => hsel j oj cs b hoj
  have hgj0 : GivesIf P ops S oj u a := hgj.of_same (execOp_put oj hsj a oi.dst v h1).symm (wanted_put oj a oi.dst v h1).symm;have hgi1 : GivesIf P ops S oi v (a.put oj.dst u) := hy.of_same (execOp_put oi hsi a oj.dst u h3) (wanted_put oi a oj.dst u h3)
  have hfree' : ∀ k ok,ops[k]? = some ok → k ≠ i → (listed.setIfInBounds j true).getD k true = false →
    (∀ e ∈ ok.after,Region.binds md e = true → e.on ≠ i) → oi.apart ops ok = true := fun k ok hk hki hun hno => by
   refine hfree k ok hk hki ?_ hno
   by_cases hjk : j = k
   ·subst hjk;exact hjun
   rw [getD_set_ne true hjk] at hun;exact hun
  refine ⟨oj,u,hoj,hgj0,ih (listed.setIfInBounds j true) (a.put oj.dst u) hfree' (ready_mono hr (Ne.symm hji)) hgi1 ?_⟩;rw [Array.setIfInBounds_comm _ _ hji, ← Act.put_comm a v u h2];exact hrest
def GiveList (P : Program) (ops : Array Oper) (S : World → Prop) (Q : Exit → Act → World → Prop) : List Oper → Act → Prop
 | [],a => ∀ w,S w → Q .normal a w
 | o :: l,a => ∃ v,GivesIf P ops S o v a ∧ GiveList P ops S Q l (a.put o.dst v)
def upTo (n k : Nat) : Array Bool := ((List.range n).map fun i => decide (i < k)).toArray
def orderOk (ops : Array Oper) : Bool := (List.range ops.size).all fun i => (Region.ready .any ops (upTo ops.size i)).contains i && Region.free .any ops (upTo ops.size i) i
theorem upTo_next (n k : Nat) : (upTo n k).setIfInBounds k true = upTo n (k + 1) := by
 apply Array.ext_getElem?;intro i
 by_cases h : k = i
 ·subst h
  by_cases hk : k < n <;> simp [upTo,hk]
 rw [Array.getElem?_setIfInBounds_ne h]
 by_cases hi : i < n
 ·have : (i < k) ↔ (i < k + 1) := by omega
  simp [upTo,hi,this]
 simp [upTo,hi]
theorem ready_end (n : Nat) (h : ops.size = n) : Region.ready md ops (upTo n n) = [] := by
 rw [List.eq_nil_iff_forall_not_mem];intro j hj;obtain ⟨h0,o,ho,_⟩ := mem_ready.1 hj;have hlt : j < n := by rw [← h];exact (Array.getElem?_eq_some_iff.1 ho).1
 simp [upTo,hlt] at h0
theorem region_gives {id : Nat} {a : Act} {w : World} (S : World → Prop) (hm : P.follows .mixedOrders = true) (hs : Region.noSelect ops = true) (ho : orderOk ops = true) (hS : S w.drew) (h : GiveList P ops S Q ops.toList a) : (Code.region id ops true).wp P Q a w := by
 refine wp_region_any hm ?_
 have key : ∀ m k (a : Act),k + m = ops.size → GiveList P ops S Q (ops.toList.drop k) a → wpAnyU P .any ops S (fun a => ∀ w,S w → Q .normal a w) m (upTo ops.size k) a := by
  intro m
  induction m with
  | zero =>
   intro k a hk hg;have : k = ops.size := by omega
   subst this;rw [List.drop_eq_nil_of_le (by simp)] at hg;exact ⟨ready_end _ rfl,hg⟩
  | succ m ih =>
   intro k a hk hg;have hlt : k < ops.toList.length := by rw [Array.length_toList];omega
   rw [List.drop_eq_getElem_cons hlt] at hg;obtain ⟨v,hv,hr⟩ := hg;have hoi : ops[k]? = some (ops.toList[k]) := by rw [Array.getElem_toList];exact Array.getElem?_eq_getElem _
   have hk2 := List.all_eq_true.1 ho k (List.mem_range.2 (by omega));simp only [Bool.and_eq_true] at hk2;refine wpAnyU_first hoi (Region.noSelect_spec hs) m _ a (Region.free_spec hoi hk2.2) (by simpa using hk2.1) hv ?_;rw [upTo_next];exact ih (k + 1) _ (by omega) hr
 have h0 := wpAny_of_U (Q := Q) _ _ _ (key ops.size 0 a (by omega) (by simpa using h)) w.drew hS
 have hu : upTo ops.size 0 = Array.replicate ops.size false := by
  apply Array.ext_getElem?;intro i
  by_cases hi : i < ops.size <;> simp [upTo,hi]
 rw [hu] at h0;exact h0
theorem region_lit {id : Nat} {L : List Oper} {a : Act} {w : World} (S : World → Prop) (hm : P.follows .mixedOrders = true) (hs : Region.noSelect L.toArray = true) (ho : orderOk L.toArray = true) (hS : S w.drew) (h : GiveList P L.toArray S Q L a) : (Code.region id L.toArray true).wp P Q a w :=
 region_gives S hm hs ho hS (by simpa using h)
variable {o : Oper} {l : List Oper} {a : Act}
theorem gl_nil (h : ∀ w,S w → Q .normal a w) : GiveList P ops S Q [] a := h
theorem gl_skip (hw : Region.wanted o (yielded ops a.tmps) = false) (h : GiveList P ops S Q l (a.put o.dst undef)) : GiveList P ops S Q (o :: l) a := ⟨undef, .inr ⟨hw,rfl⟩,h⟩
theorem gl_val {v : Value} (hw : Region.wanted o (yielded ops a.tmps) = true) (hv : ∀ w,S w → (execOp a.eval o).run P w = .ok (.value v) w) (h : GiveList P ops S Q l (a.put o.dst v)) : GiveList P ops S Q (o :: l) a :=
 ⟨v, .inl ⟨hw,fun w hS => by rw [hv w hS];exact ⟨rfl,hS⟩⟩,h⟩
theorem gl_call {f : FuncId} {asz : Array Operand} {ts : Array TypeId} {v : Value} {fn : Func} (hop : o.op = .call { callee := .value (.func f),args := asz,argTypes := ts }) (hw : Region.wanted o (yielded ops a.tmps) = true)
  (hf : P.funcs[f]? = some fn) (hname : (fn.name == "runtime.NumGoroutine") = false) (hb : fn.body.isSome = true) {args : Array Value} (hargs : asz.map a.eval = args)
  (hc : ∀ w,S w → Calls P f args w fun e w' => e = .returned v ∧ S w') (h : GiveList P ops S Q l (a.put o.dst v)) : GiveList P ops S Q (o :: l) a := by
 refine ⟨v, .inl ⟨hw,fun w hS => ?_⟩,h⟩
 have he : ∀ w,(callFunc f args).run P w = .ok (.enter f args) w := fun w => by
  have h1 : fn.name ≠ "runtime.NumGoroutine" := by simpa using hname
  obtain ⟨c,hc⟩ := Option.isSome_iff_exists.1 hb;simp [callFunc,hf,h1,hc]
 have hrun : (execOp a.eval o).run P w = .ok (.enter f args) w := by
  unfold execOp;simp [hop,resolve,Deferred.ofValue,invoke,Act.eval,hargs,he]
 rw [hrun];exact hc w hS
end
end Go.Proofs.YtalomolellcefaaDoor.Maps
namespace Go.Proofs.YtalomolellcefaaDoor.Q
open Go.RowKit Go.Proofs.YtalomolellcefaaDoorW.PrintWords Go.Proofs.YtalomolellcefaaDoorW.PrintLast Go.Proofs.YtalomolellcefaaDoorW.PrintMore
attribute [local go_sem] max2_int min2_int max_two min_two
def elfw_size.f (a0_0 : ByteArray) (a0_1 : Int) (l0_2 : List Int) (a0_3 : Int) : Option (Int) := some (wrap64 ((l0_2.length : Int) + a0_3))
set_option maxHeartbeats 8000000 in
set_option maxRecDepth 100000 in
theorem elfw_size.calls (a0_0 : ByteArray) (a0_1 : Int) (A0_2 : Option Addr) (c0_2 : Nat) (l0_2 : List Int) (a0_3 : Int) (r : Int) (w : World) (hr0_2 : Kd.C (Kd.int .u8) w A0_2 l0_2.length l0_2) (hc0_2 : l0_2.length ≤ c0_2) (h : elfw_size.f a0_0 a0_1 l0_2 a0_3 = some r) :
  Calls Tryd.prog 45 #[.agg #[.string a0_0, .int .i64 a0_1, .slice A0_2 l0_2.length c0_2, .int .i64 a0_3]] w fun e w' => e = .returned (.int .i64 r) ∧ Below w.heap.size w w' := by
 have hu72 := Tryd.underlying72;have HR0_2 := am0 hr0_2;have HC0_2 := am0 hc0_2;clear hr0_2 hc0_2;have HB := am0 (Below.refl w.heap.size w);have H : (some (wrap64 ((l0_2.length : Int) + a0_3))) = some r := h;clear h;obtain rfl := Option.some.inj H;go_enter Tryd.func45,Tryd.ntmps45
 go_wp2_with (first | ((with_reducible refine gate_dst (N := 1) rfl ?_);refine box_event ?hg (N := 1) ?hd (cs := #[.string a0_0, .int .i64 a0_1, .slice A0_2 l0_2.length c0_2, .int .i64 a0_3]) (t := 72) ?hr ?_;(case hd => rfl);(case hg => rfl);(case hr => first | (go_simp;done) | (go_simp;rfl));intro gb462 hg w2 hbox hb;have n0_ := am0 (below_step (by repeat (first | (with_reducible first | exact HB.out | apply below_alloc | apply pw_below_drewN | apply below_drew1) | exact HB.out)) hb);have n1_ := am0 (hbox);have n2_ := am0 ((by rw [hg];exact (below_size (by repeat (first | (with_reducible first | exact HB.out | apply below_alloc | apply pw_below_drewN | apply below_drew1) | exact HB.out))) : w.heap.size ≤ gb462));have n3_ := am0 ((by rw [hg];exact (below_size (by repeat (first | (with_reducible first | exact HB.out | apply below_alloc | apply pw_below_drewN | apply below_drew1) | exact HB.out))) : w.heap.size ≤ gb462));clear HB;have HB := n0_;have BK462 := n1_;have GW462 := n2_;have GE462 := n3_;clear n0_ n1_ n2_ n3_;clear hb hbox hg;have hcz3_0 : w2.cell? ⟨gb462,0,none⟩ = some (.string a0_0) := (blk_cell BK462.out 0).trans rfl;have hcz3_1 : w2.cell? ⟨gb462,1,none⟩ = some (.int .i64 a0_1) := (blk_cell BK462.out 1).trans rfl;have hcz3_2 : w2.cell? ⟨gb462,2,none⟩ = some (.slice A0_2 l0_2.length c0_2) := (blk_cell BK462.out 2).trans rfl;have hcz3_3 : w2.cell? ⟨gb462,3,none⟩ = some (.int .i64 a0_3) := (blk_cell BK462.out 3).trans rfl;have hfz3_0 := blk_frozen BK462.out 0;have hfz3_1 := blk_frozen BK462.out 1;have hfz3_2 := blk_frozen BK462.out 2;have hfz3_3 := blk_frozen BK462.out 3))
 go_ret
 exact ⟨by first | rfl | (simp [errW_none,errW_some] <;> rfl) | (simp [*,errW_none,errW_some] <;> rfl),by repeat (first | (with_reducible first | exact HB.out | apply below_alloc | apply pw_below_drewN | apply below_drew1 | refine below_set ?_ GE462.out) | exact HB.out)⟩
end Go.Proofs.YtalomolellcefaaDoor.Q
namespace Go.Proofs.YtalomolellcefaaDoor.Q
open Go.RowKit Go.Proofs.YtalomolellcefaaDoorW.PrintWords Go.Proofs.YtalomolellcefaaDoorW.PrintLast Go.Proofs.YtalomolellcefaaDoorW.PrintMore Go.Proofs.YtalomolellcefaaDoor.Maps
def sizeV (x : S72) : Int := wrap64 ((x.f2.length : Int) + x.f3)
def symGo (secs : List S72) : List S40 → Bool → List ByteArray → Bool
 | [],_,_ => true
 | s :: l,g,seen =>
  if symOk s secs.length = false then false
  else if 0 < s.f3 ∧ sizeV (rd_T72 secs (s.f3 - 1)) < s.f4 + s.f5 then false
  else if s.f1 = 0 then (if g then false else symGo secs l g seen)
  else if s.f0 ∈ seen then false else symGo secs l true (s.f0 :: seen)
def symbolsV (secs : List S72) (syms : List S40) : Bool := symGo secs syms false [] && decide (syms.length ≤ 64)
def elfw_symbolsMay.f (l0_0 : List (S72)) (l0_1 : List (S40)) (l0_2 : List (S94)) (l0_3 : List (S68)) : Option (Bool) := if l0_1.length < 1099511627776 then some (symbolsV l0_0 l0_1) else none
def seenF (seen : List ByteArray) : ByteArray → Option Int := fun y => if y ∈ seen then some 1 else none
theorem seenF_cons (seen : List ByteArray) (s0 k : ByteArray) : seenF (s0 :: seen) k = upd (seenF seen) s0 1 k := by
 unfold seenF upd
 by_cases h : k = s0
 ·simp [h]
 by_cases h2 : k ∈ seen <;> simp [h,h2]
set_option maxHeartbeats 800000 in
set_option maxRecDepth 100000 in
theorem elfw_symbolsMay.calls (A0_0 : Option Addr) (c0_0 : Nat) (l0_0 : List (S72)) (A0_1 : Option Addr) (c0_1 : Nat) (l0_1 : List (S40)) (A0_2 : Option Addr) (c0_2 : Nat) (l0_2 : List (S94)) (A0_3 : Option Addr) (c0_3 : Nat) (l0_3 : List (S68)) (r : Bool) (w : World) (hr0_0 : Kd.C k72 w A0_0 l0_0.length l0_0) (hc0_0 : l0_0.length ≤ c0_0) (hr0_1 : Kd.C k40 w A0_1 l0_1.length l0_1) (hc0_1 : l0_1.length ≤ c0_1) (hr0_2 : Kd.C k94 w A0_2 l0_2.length l0_2) (hc0_2 : l0_2.length ≤ c0_2) (hr0_3 : Kd.C k68 w A0_3 l0_3.length l0_3) (hc0_3 : l0_3.length ≤ c0_3) (h : elfw_symbolsMay.f l0_0 l0_1 l0_2 l0_3 = some r) :
  Calls Tryd.prog 34 #[.agg #[.slice A0_0 l0_0.length c0_0, .slice A0_1 l0_1.length c0_1, .slice A0_2 l0_2.length c0_2, .slice A0_3 l0_3.length c0_3]] w fun e w' => e = .returned (.bool r) ∧ Below w.heap.size w w' := by
 have hu35 := Tryd.underlying35;have hu40 := Tryd.underlying40;have hu72 := Tryd.underlying72
 obtain ⟨hsm,hR⟩ : l0_1.length < 1099511627776 ∧ symbolsV l0_0 l0_1 = r := by
  unfold elfw_symbolsMay.f at h
  split at h
  ·exact ⟨by assumption,Option.some.inj h⟩
  cases h
 clear h;have HB := am0 (Below.refl w.heap.size w);have HC0 := am0 hr0_0;have HC1 := am0 hr0_1;clear hr0_0 hr0_1 hr0_2 hr0_3;go_enter Tryd.func34,Tryd.ntmps34
 go_wp2_with (first | ((with_reducible refine gate_dst (N := 1) rfl ?_);refine box_event ?hg (N := 1) ?hd (cs := #[.slice A0_0 l0_0.length c0_0, .slice A0_1 l0_1.length c0_1, .slice A0_2 l0_2.length c0_2, .slice A0_3 l0_3.length c0_3]) (t := 35) ?hr ?_;(case hd => rfl);(case hg => rfl);(case hr => first | (go_simp;done) | (go_simp;rfl));intro gb hg w1 hbox hb;have BK := am0 hbox;have GB := am0 hg;replace HB := am0 (below_step HB.out hb);obtain ⟨z1,f1⟩ := bx (vs := [.slice A0_0 l0_0.length c0_0, .slice A0_1 l0_1.length c0_1, .slice A0_2 l0_2.length c0_2, .slice A0_3 l0_3.length c0_3]) hbox 1 rfl;obtain ⟨z0,f0⟩ := bx (vs := [.slice A0_0 l0_0.length c0_0, .slice A0_1 l0_1.length c0_1, .slice A0_2 l0_2.length c0_2, .slice A0_3 l0_3.length c0_3]) hbox 0 rfl;clear hbox hb hg) | ((with_reducible refine gate_dst (N := 7) rfl ?_);refine map_event rfl _ 9 slit (Value.int .i64) rfl ?_;intro mb hg w2 hm hb;have MM := am0 hm;have NG := am0 (show gb ≠ mb by rw [hg];exact Nat.ne_of_lt (blk_lt BK.out));have GM := am0 (show w.heap.size ≤ mb by rw [hg];exact below_size HB.out);replace BK := am0 (blk_below BK.out hb);replace HB := am0 (below_step HB.out hb);clear z1 f1 z0 f0;obtain ⟨z1,f1⟩ := bx (vs := [.slice A0_0 l0_0.length c0_0, .slice A0_1 l0_1.length c0_1, .slice A0_2 l0_2.length c0_2, .slice A0_3 l0_3.length c0_3]) BK.out 1 rfl;obtain ⟨z0,f0⟩ := bx (vs := [.slice A0_0 l0_0.length c0_0, .slice A0_1 l0_1.length c0_1, .slice A0_2 l0_2.length c0_2, .slice A0_3 l0_3.length c0_3]) BK.out 0 rfl;clear hm hb hg))
 clear z1 f1 z0 f0;have hGo : ∃ V,symGo l0_0 l0_1 false [] = V := ⟨_,rfl⟩;obtain ⟨V,hV⟩ := hGo;have HV := am0 hV;have HR := am0 (show (V && decide (l0_1.length ≤ 64)) = r by rw [← hR, ← hV];rfl);clear hV hR;go_loopw [4,11] (fun vg vi wr => ∃ (g : Bool) (i : Nat) (seen : List ByteArray),i ≤ l0_1.length ∧ vg = .bool g ∧ vi = .int .i64 (i : Int) ∧ Aside0 (symGo l0_0 (l0_1.drop i) g seen = V) ∧ Aside0 (MapIs Tryd.prog 9 slit (Value.int .i64) wr mb i (seenF seen)) ∧ Aside0 (wr.heap[gb]? = some (.cells #[.slice A0_0 l0_0.length c0_0, .slice A0_1 l0_1.length c0_1, .slice A0_2 l0_2.length c0_2, .slice A0_3 l0_3.length c0_3] 35 (0,0))) ∧ Aside0 (Below w.heap.size w wr)) (fun _ vi _ => l0_1.length - (intOf vi).toNat)
 case atStart => exact ⟨false,0,[],by omega,rfl,rfl,HV,⟨MM.out.of_eq (fun k => by simp [seenF])⟩,BK,HB⟩
 case round =>
  clear MM BK HB;obtain ⟨g,i,seen,hi,rfl,rfl,HS,MM,BK,HB⟩ := hrel
  by_cases hlt : i < l0_1.length
  ·obtain ⟨ad,eA,x0,x1,x2,x3,x4,x5⟩ := at_T40 (Kd.C_below HC1.out HB.out) (i : Int) (by omega) (by omega)
   subst eA;rw [show ((i : Int)).toNat = i from rfl] at x0 x1 x2 x3 x4 x5;have hnum : (i : Int) < (l0_1.length : Int) := by omega
   go_upto_region 6 with (fail)
   clear x0 x1 x2 x3 x4 x5;generalize hw3 : wr.alloc _ = w3;obtain ⟨hbox,hb⟩ := alloc_facts hw3;have NS := am0 (show mb ≠ wr.heap.size from Nat.ne_of_lt MM.out.lt);have GS := am0 (show w.heap.size ≤ wr.heap.size from below_size HB.out);clear hw3;generalize wr.heap.size = sb at hbox NS GS ⊢;have BS := am0 hbox;replace BK := am0 (blk_below BK.out hb);replace MM := am0 (MM.out.below hb);replace HB := am0 (below_step HB.out hb);clear hbox hb;have hs : ∃ s,rd_T40 l0_1 (i : Int) = s := ⟨_,rfl⟩;obtain ⟨s,hs⟩ := hs;rw [hs] at BS ⊢
   have hdrop : l0_1.drop i = s :: l0_1.drop (i + 1) := by
    rw [List.drop_eq_getElem_cons hlt]
    congr 1
    rw [← hs];unfold rd_T40;rw [Int.toNat_natCast,List.getD_eq_getElem?_getD,List.getElem?_eq_getElem hlt,Option.getD_some]
   have HS2 := HS.out;rw [hdrop,symGo] at HS2;replace HS := am0 HS2;clear HS2;obtain ⟨s0,e0⟩ : ∃ x,s.f0 = x := ⟨_,rfl⟩;obtain ⟨s1,e1⟩ : ∃ x,s.f1 = x := ⟨_,rfl⟩;obtain ⟨s2,e2⟩ : ∃ x,s.f2 = x := ⟨_,rfl⟩;obtain ⟨s3,e3⟩ : ∃ x,s.f3 = x := ⟨_,rfl⟩;obtain ⟨s4,e4⟩ : ∃ x,s.f4 = x := ⟨_,rfl⟩;obtain ⟨s5,e5⟩ : ∃ x,s.f5 = x := ⟨_,rfl⟩;have hsv := fun W => sym_Check.calls 34 s.f0 s.f1 s.f2 s.f3 s.f4 s.f5 l0_0.length _ W (sym_val 0 s l0_0.length)
   simp only [e0,e1,e2,e3,e4,e5] at hsv BS ⊢;have HSV := am0 hsv;have HE := am0 (And.intro hs (And.intro e0 (And.intro e1 (And.intro e2 (And.intro e3 (And.intro e4 e5))))));have hpure := HS.out;simp only [e0,e1,e3,e4,e5] at hpure;replace HS := am0 hpure;obtain ⟨cv,hcv⟩ : ∃ x,symV s l0_0.length = x := ⟨_,rfl⟩;have hcvz := symV_zero s l0_0.length;rw [hcv] at hcvz;rw [hcv] at HSV;have hpos' := fun h => symOk_pos (s := s) (n := l0_0.length) h
   rw [e3,e4,e5] at hpos';have hnm := fun h => symOk_named (s := s) (n := l0_0.length) h
   rw [e0] at hnm;generalize symOk s l0_0.length = ok at HS hcvz hpos' hnm;have HP := am0 hpos';have HN := am0 hnm;clear hsv hpure hpos' hnm hs e0 e1 e2 e3 e4 e5 hcv hdrop
   have hcell : ∀ W,Below w3.heap.size w3 W → W.cell? ⟨gb,0,none⟩ = some (.slice A0_0 l0_0.length c0_0) ∧ W.cell? ⟨sb,0,none⟩ = some (.string s0) ∧ W.cell? ⟨sb,1,none⟩ = some (.int .u8 s1) ∧ W.cell? ⟨sb,2,none⟩ = some (.bool s2) ∧ W.cell? ⟨sb,3,none⟩ = some (.int .i64 s3) ∧ W.cell? ⟨sb,4,none⟩ = some (.int .i64 s4) ∧ W.cell? ⟨sb,5,none⟩ = some (.int .i64 s5) := fun W hW =>
    ⟨(bx (vs := [.slice A0_0 l0_0.length c0_0, .slice (some ad) l0_1.length c0_1, .slice A0_2 l0_2.length c0_2, .slice A0_3 l0_3.length c0_3]) (blk_below BK.out hW) 0 rfl).1,(bx (vs := [.string s0, .int .u8 s1, .bool s2, .int .i64 s3, .int .i64 s4, .int .i64 s5]) (blk_below BS.out hW) 0 rfl).1,(bx (vs := [.string s0, .int .u8 s1, .bool s2, .int .i64 s3, .int .i64 s4, .int .i64 s5]) (blk_below BS.out hW) 1 rfl).1,(bx (vs := [.string s0, .int .u8 s1, .bool s2, .int .i64 s3, .int .i64 s4, .int .i64 s5]) (blk_below BS.out hW) 2 rfl).1,(bx (vs := [.string s0, .int .u8 s1, .bool s2, .int .i64 s3, .int .i64 s4, .int .i64 s5]) (blk_below BS.out hW) 3 rfl).1,(bx (vs := [.string s0, .int .u8 s1, .bool s2, .int .i64 s3, .int .i64 s4, .int .i64 s5]) (blk_below BS.out hW) 4 rfl).1,(bx (vs := [.string s0, .int .u8 s1, .bool s2, .int .i64 s3, .int .i64 s4, .int .i64 s5]) (blk_below BS.out hW) 5 rfl).1⟩
   have HCELL := am0 hcell;clear hcell;cases ok
   ·have hv : ¬ cv = 0 := fun h => by simpa using hcvz.1 h
    have hv2 : (cv == 0) = false := by simpa using hv
    have hv3 : (cv != 0) = true := by simpa using hv
    clear hcvz;refine region_lit (S := fun W => Below w3.heap.size w3 W ∧ (W.cell? ⟨gb,0,none⟩ = some (.slice A0_0 l0_0.length c0_0) ∧ W.cell? ⟨sb,0,none⟩ = some (.string s0) ∧ W.cell? ⟨sb,1,none⟩ = some (.int .u8 s1) ∧ W.cell? ⟨sb,2,none⟩ = some (.bool s2) ∧ W.cell? ⟨sb,3,none⟩ = some (.int .i64 s3) ∧ W.cell? ⟨sb,4,none⟩ = some (.int .i64 s4) ∧ W.cell? ⟨sb,5,none⟩ = some (.int .i64 s5))) (by kernel_rfl) (by kernel_rfl) (by kernel_rfl) ⟨below_drew1 (Below.refl w3.heap.size w3),HCELL.out _ (below_drew1 (Below.refl w3.heap.size w3))⟩ ?_
    repeat (first
     | (refine gl_skip (by rfl) ?_;simp only [Act.put,List.setIfInBounds_toArray,List.set_cons_zero,List.set_cons_succ])
     | (refine gl_call (f := 44) (v := .int .i64 cv) rfl (by rfl) Tryd.func44 (by kernel_rfl) rfl (args := #[.agg #[.string s0, .int .u8 s1, .bool s2, .int .i64 s3, .int .i64 s4, .int .i64 s5], .int .i64 (l0_0.length : Int)]) (by first | (simp only [List.map_toArray,List.map_cons,List.map_nil];done) | (simp only [List.map_toArray,List.map_cons,List.map_nil];rfl)) (fun W hW => (HSV.out W).mono (by rintro e w' ⟨rfl,hb⟩;exact ⟨rfl,below_step hW.1 hb,HCELL.out _ (below_step hW.1 hb)⟩)) ?_;simp only [Act.put,List.setIfInBounds_toArray,List.set_cons_zero,List.set_cons_succ])
     | (refine gl_val (v := ?_) (by rfl) ?_ ?_;rotate_left;(intro W hW;(try dsimp only at hW);go_simp;done);simp only [Act.put,List.setIfInBounds_toArray,List.set_cons_zero,List.set_cons_succ])
     | (refine gl_val (v := ?_) (by rfl) ?_ ?_;rotate_left;(intro W hW;(try dsimp only at hW);go_simp;with_reducible rfl);simp only [Act.put,List.setIfInBounds_toArray,List.set_cons_zero,List.set_cons_succ]))
    refine gl_nil (fun w4 hW => ?_);obtain ⟨hB,hW⟩ := hW;replace HB := am0 (below_step HB.out hB);replace MM := am0 (MM.out.below hB);replace BK := am0 (blk_below BK.out hB);replace BS := am0 (blk_below BS.out hB);clear hB hW;go_wp2
    go_ret
    refine ⟨?_,HB.out⟩;rw [← HR.out, ← HS.out];rfl
   have hv := hcvz.2 rfl;subst hv;clear hcvz;have hpure := HS.out;rw [if_neg (by decide)] at hpure;replace HS := am0 hpure;clear hpure
   by_cases hpos : 0 < s3
   ·obtain ⟨⟨hle,hn16⟩,⟨h4a,h4b⟩,⟨h5a,h5b⟩⟩ := HP.out rfl hpos
    obtain ⟨j,rfl⟩ : ∃ j : Nat,s3 = (j : Int) + 1 := ⟨(s3 - 1).toNat,by omega⟩;have hjl : (j : Int) < (l0_0.length : Int) := by omega
    obtain ⟨aS,A2,c2,eS,y0,y1,y2,y3,l2,g2⟩ := at_T72 (Kd.C_below HC0.out HB.out) (j : Int) (by omega) hjl;subst eS;rw [show ((j : Int)).toNat = j from rfl] at y0 y1 y2 y3;have hpure := HS.out;rw [show ((j : Int) + 1 - 1) = (j : Int) by omega] at hpure;generalize rd_T72 l0_0 (j : Int) = S at y0 y1 y2 y3 l2 g2 hpure;have HC := am0 (fun W (hW : Below w3.heap.size w3 W) => And.intro (HCELL.out W hW) (And.intro (cell_keep hW y0) (And.intro (cell_keep hW y1) (And.intro (cell_keep hW y2) (cell_keep hW y3)))));have G2 := am0 g2;have L2 := am0 l2;have i1 : IntKind.i64.wrap (s4 + s5) = s4 + s5 := IntWalk.i64_in _ (by omega);have i2 : IntKind.i64.wrap (j : Int) = (j : Int) := IntWalk.i64_in _ (by omega);clear y0 y1 y2 y3 g2 l2 h4a h4b h5a h5b hle HP;have HZ := am0 (fun W hr => elfw_size.calls S.f0 S.f1 A2 c2 S.f2 S.f3 (sizeV S) W hr L2.out rfl);obtain ⟨z,hz⟩ : ∃ z,sizeV S = z := ⟨_,rfl⟩;rw [hz] at HZ hpure;clear hz
    by_cases hsz : z < s4 + s5
    ·rw [if_pos ⟨hpos,hsz⟩] at hpure
     replace HS := am0 hpure;clear hpure;refine region_lit (S := fun W => Below w3.heap.size w3 W ∧ (W.cell? ⟨gb,0,none⟩ = some (.slice (some aS) l0_0.length c0_0) ∧ W.cell? ⟨sb,0,none⟩ = some (.string s0) ∧ W.cell? ⟨sb,1,none⟩ = some (.int .u8 s1) ∧ W.cell? ⟨sb,2,none⟩ = some (.bool s2) ∧ W.cell? ⟨sb,3,none⟩ = some (.int .i64 ((j : Int) + 1)) ∧ W.cell? ⟨sb,4,none⟩ = some (.int .i64 s4) ∧ W.cell? ⟨sb,5,none⟩ = some (.int .i64 s5)) ∧ W.cell? (aS.add (j * 4)) = some (.string S.f0) ∧ W.cell? ⟨(aS.add (j * 4)).block,(aS.add (j * 4)).off + 1,none⟩ = some (.int .i64 S.f1) ∧ W.cell? ⟨(aS.add (j * 4)).block,(aS.add (j * 4)).off + 2,none⟩ = some (.slice A2 S.f2.length c2) ∧ W.cell? ⟨(aS.add (j * 4)).block,(aS.add (j * 4)).off + 3,none⟩ = some (.int .i64 S.f3)) (by kernel_rfl) (by kernel_rfl) (by kernel_rfl) ⟨below_drew1 (Below.refl w3.heap.size w3),HC.out _ (below_drew1 (Below.refl w3.heap.size w3))⟩ ?_
     repeat (first
      | (refine gl_skip (by rfl) ?_;simp only [Act.put,List.setIfInBounds_toArray,List.set_cons_zero,List.set_cons_succ])
      | (refine gl_call (f := 44) (v := .int .i64 0) rfl (by rfl) Tryd.func44 (by kernel_rfl) rfl (args := #[.agg #[.string s0, .int .u8 s1, .bool s2, .int .i64 ((j : Int) + 1), .int .i64 s4, .int .i64 s5], .int .i64 (l0_0.length : Int)]) (by first | (simp only [List.map_toArray,List.map_cons,List.map_nil];done) | (simp only [List.map_toArray,List.map_cons,List.map_nil];rfl)) (fun W hW => (HSV.out W).mono (by rintro e w' ⟨rfl,hb⟩;exact ⟨rfl,below_step hW.1 hb,HC.out _ (below_step hW.1 hb)⟩)) ?_;simp only [Act.put,List.setIfInBounds_toArray,List.set_cons_zero,List.set_cons_succ])
      | (refine gl_call (f := 45) (v := .int .i64 z) rfl (by rfl) Tryd.func45 (by kernel_rfl) rfl (args := #[.agg #[.string S.f0, .int .i64 S.f1, .slice A2 S.f2.length c2, .int .i64 S.f3]]) (by first | (simp only [List.map_toArray,List.map_cons,List.map_nil];done) | (simp only [List.map_toArray,List.map_cons,List.map_nil];rfl)) (fun W hW => (HZ.out W (Kd.C_below G2.out hW.1)).mono (by rintro e w' ⟨rfl,hb⟩;exact ⟨rfl,below_step hW.1 hb,HC.out _ (below_step hW.1 hb)⟩)) ?_;simp only [Act.put,List.setIfInBounds_toArray,List.set_cons_zero,List.set_cons_succ])
      | (refine gl_val (v := ?_) (by rfl) ?_ ?_;rotate_left;(intro W hW;(try dsimp only at hW);go_simp;done);simp only [Act.put,List.setIfInBounds_toArray,List.set_cons_zero,List.set_cons_succ])
      | (refine gl_val (v := ?_) (by rfl) ?_ ?_;rotate_left;(intro W hW;(try dsimp only at hW);go_simp;with_reducible rfl);simp only [Act.put,List.setIfInBounds_toArray,List.set_cons_zero,List.set_cons_succ]))
     refine gl_nil (fun w4 hW => ?_);obtain ⟨hB,hW⟩ := hW;replace HB := am0 (below_step HB.out hB);replace MM := am0 (MM.out.below hB);replace BK := am0 (blk_below BK.out hB);replace BS := am0 (blk_below BS.out hB);clear hB hW;go_wp2
     go_ret
     refine ⟨?_,HB.out⟩;rw [← HR.out, ← HS.out];rfl
    rw [if_neg (fun h => hsz h.2)] at hpure;replace HS := am0 hpure;clear hpure;refine region_lit (S := fun W => Below w3.heap.size w3 W ∧ (W.cell? ⟨gb,0,none⟩ = some (.slice (some aS) l0_0.length c0_0) ∧ W.cell? ⟨sb,0,none⟩ = some (.string s0) ∧ W.cell? ⟨sb,1,none⟩ = some (.int .u8 s1) ∧ W.cell? ⟨sb,2,none⟩ = some (.bool s2) ∧ W.cell? ⟨sb,3,none⟩ = some (.int .i64 ((j : Int) + 1)) ∧ W.cell? ⟨sb,4,none⟩ = some (.int .i64 s4) ∧ W.cell? ⟨sb,5,none⟩ = some (.int .i64 s5)) ∧ W.cell? (aS.add (j * 4)) = some (.string S.f0) ∧ W.cell? ⟨(aS.add (j * 4)).block,(aS.add (j * 4)).off + 1,none⟩ = some (.int .i64 S.f1) ∧ W.cell? ⟨(aS.add (j * 4)).block,(aS.add (j * 4)).off + 2,none⟩ = some (.slice A2 S.f2.length c2) ∧ W.cell? ⟨(aS.add (j * 4)).block,(aS.add (j * 4)).off + 3,none⟩ = some (.int .i64 S.f3)) (by kernel_rfl) (by kernel_rfl) (by kernel_rfl) ⟨below_drew1 (Below.refl w3.heap.size w3),HC.out _ (below_drew1 (Below.refl w3.heap.size w3))⟩ ?_
    repeat (first
     | (refine gl_skip (by rfl) ?_;simp only [Act.put,List.setIfInBounds_toArray,List.set_cons_zero,List.set_cons_succ])
     | (refine gl_call (f := 44) (v := .int .i64 0) rfl (by rfl) Tryd.func44 (by kernel_rfl) rfl (args := #[.agg #[.string s0, .int .u8 s1, .bool s2, .int .i64 ((j : Int) + 1), .int .i64 s4, .int .i64 s5], .int .i64 (l0_0.length : Int)]) (by first | (simp only [List.map_toArray,List.map_cons,List.map_nil];done) | (simp only [List.map_toArray,List.map_cons,List.map_nil];rfl)) (fun W hW => (HSV.out W).mono (by rintro e w' ⟨rfl,hb⟩;exact ⟨rfl,below_step hW.1 hb,HC.out _ (below_step hW.1 hb)⟩)) ?_;simp only [Act.put,List.setIfInBounds_toArray,List.set_cons_zero,List.set_cons_succ])
     | (refine gl_call (f := 45) (v := .int .i64 z) rfl (by rfl) Tryd.func45 (by kernel_rfl) rfl (args := #[.agg #[.string S.f0, .int .i64 S.f1, .slice A2 S.f2.length c2, .int .i64 S.f3]]) (by first | (simp only [List.map_toArray,List.map_cons,List.map_nil];done) | (simp only [List.map_toArray,List.map_cons,List.map_nil];rfl)) (fun W hW => (HZ.out W (Kd.C_below G2.out hW.1)).mono (by rintro e w' ⟨rfl,hb⟩;exact ⟨rfl,below_step hW.1 hb,HC.out _ (below_step hW.1 hb)⟩)) ?_;simp only [Act.put,List.setIfInBounds_toArray,List.set_cons_zero,List.set_cons_succ])
     | (refine gl_val (v := ?_) (by rfl) ?_ ?_;rotate_left;(intro W hW;(try dsimp only at hW);go_simp;done);simp only [Act.put,List.setIfInBounds_toArray,List.set_cons_zero,List.set_cons_succ])
     | (refine gl_val (v := ?_) (by rfl) ?_ ?_;rotate_left;(intro W hW;(try dsimp only at hW);go_simp;with_reducible rfl);simp only [Act.put,List.setIfInBounds_toArray,List.set_cons_zero,List.set_cons_succ]))
    refine gl_nil (fun w4 hW => ?_);obtain ⟨hB,hW⟩ := hW;replace HB := am0 (below_step HB.out hB);replace MM := am0 (MM.out.below hB);replace BK := am0 (blk_below BK.out hB);replace BS := am0 (blk_below BS.out hB);clear hB hW;obtain ⟨q0,_⟩ := bx (vs := [.string s0, .int .u8 s1, .bool s2, .int .i64 ((j : Int) + 1), .int .i64 s4, .int .i64 s5]) BS.out 0 rfl;obtain ⟨q1,_⟩ := bx (vs := [.string s0, .int .u8 s1, .bool s2, .int .i64 ((j : Int) + 1), .int .i64 s4, .int .i64 s5]) BS.out 1 rfl
    by_cases hb0 : s1 = 0
    ·subst hb0
     have hpure := HS.out;rw [if_pos rfl] at hpure;cases g
     ·replace HS := am0 hpure
      clear hpure;go_wp2
      go_roundw
      case rel => exact ⟨false,i + 1,seen,by omega,rfl,by go_num,HS,⟨MM.out.mono (by omega)⟩,BK,HB⟩
      case measure => simp [intOf];omega
     go_wp2
     go_ret
     refine ⟨?_,HB.out⟩;rw [← HR.out, ← hpure];rfl
    have hpure := HS.out;rw [if_neg hb0] at hpure;have KL : Go.Maps.Keyed Tryd.prog 9 := Go.Maps.string_keyed Tryd.underlying9;have hkey := Go.WideMaps.keyOf_string_mk (P := Tryd.prog) Tryd.underlying9 (s := s0) (by have := HN.out rfl;simp only [maxLen];omega);have KEY := am0 hkey;have hmax : i < maxLen := by simp only [maxLen];omega
    clear hkey
    by_cases hin : s0 ∈ seen
    ·rw [if_pos hin] at hpure
     have hf : seenF seen s0 = some 1 := if_pos hin;replace HS := am0 hpure;clear hpure
     go_wp2_with (first
      | ((with_reducible refine gate_dst (N := 49) rfl ?_);refine wpList_look _ rfl (.tmp 46) (.tmp 48) 56 rfl (K := 9) (e := 3) slit (Value.int .i64) (Go.Proofs.YtalomolellcefaaDoor.Maps.int_inj IntKind.i64) KL Tryd.underlying56 0 (Tryd.zeroValue3 _) mb i (seenF seen) rfl MM.out (.string s0) s0 rfl KEY.out ?_;rw [hf,Option.getD_some])
      | (refine wpList_put _ rfl (.tmp 46) (.tmp 48) (.tmp 50) 56 rfl (K := 9) (e := 3) slit slit_inj (Value.int .i64) (Go.Proofs.YtalomolellcefaaDoor.Maps.int_inj IntKind.i64) KL Tryd.underlying56 mb i hmax (seenF seen) rfl MM.out (.string s0) s0 rfl KEY.out 2 rfl ?_;intro w5 hM hgr;have M5 := am0 hM;have hMM := MM.out;have q5 := bx (vs := [.string s0, .int .u8 s1, .bool s2, .int .i64 ((j : Int) + 1), .int .i64 s4, .int .i64 s5]) (blk_grown BS.out hgr (by intro h;exact NS.out (Option.some.inj h).symm)) 0 rfl;obtain ⟨q5,_⟩ := q5;have HB5 := am0 (ev_grown HB.out hgr (by intro b hb;cases hb;exact GM.out));clear hM hgr hMM)
      | ((with_reducible refine gate_dst (N := 54) rfl ?_);refine wpList_look _ rfl (.tmp 51) (.tmp 53) 56 rfl (K := 9) (e := 3) slit (Value.int .i64) (Go.Proofs.YtalomolellcefaaDoor.Maps.int_inj IntKind.i64) KL Tryd.underlying56 0 (Tryd.zeroValue3 _) mb (i + 1) (upd (seenF seen) s0 2) rfl M5.out (.string s0) s0 rfl KEY.out ?_;rw [show upd (seenF seen) s0 2 s0 = some 2 from if_pos rfl,Option.getD_some]))
     go_ret
     refine ⟨?_,HB5.out⟩;rw [← HR.out, ← HS.out];rfl
    rw [if_neg hin] at hpure;have hf : seenF seen s0 = none := if_neg hin;replace HS := am0 hpure;clear hpure
    go_wp2_with (first
     | ((with_reducible refine gate_dst (N := 49) rfl ?_);refine wpList_look _ rfl (.tmp 46) (.tmp 48) 56 rfl (K := 9) (e := 3) slit (Value.int .i64) (Go.Proofs.YtalomolellcefaaDoor.Maps.int_inj IntKind.i64) KL Tryd.underlying56 0 (Tryd.zeroValue3 _) mb i (seenF seen) rfl MM.out (.string s0) s0 rfl KEY.out ?_;rw [hf,Option.getD_none])
     | (refine wpList_put _ rfl (.tmp 46) (.tmp 48) (.tmp 50) 56 rfl (K := 9) (e := 3) slit slit_inj (Value.int .i64) (Go.Proofs.YtalomolellcefaaDoor.Maps.int_inj IntKind.i64) KL Tryd.underlying56 mb i hmax (seenF seen) rfl MM.out (.string s0) s0 rfl KEY.out 1 rfl ?_;intro w5 hM hgr;have M5 := am0 hM;have q5 := bx (vs := [.string s0, .int .u8 s1, .bool s2, .int .i64 ((j : Int) + 1), .int .i64 s4, .int .i64 s5]) (blk_grown BS.out hgr (by intro h;exact NS.out (Option.some.inj h).symm)) 0 rfl;obtain ⟨q5,_⟩ := q5;have BK5 := am0 (blk_grown BK.out hgr (by intro h;exact NG.out (Option.some.inj h)));have HB5 := am0 (ev_grown HB.out hgr (by intro b hb;cases hb;exact GM.out));clear hM hgr)
     | ((with_reducible refine gate_dst (N := 54) rfl ?_);refine wpList_look _ rfl (.tmp 51) (.tmp 53) 56 rfl (K := 9) (e := 3) slit (Value.int .i64) (Go.Proofs.YtalomolellcefaaDoor.Maps.int_inj IntKind.i64) KL Tryd.underlying56 0 (Tryd.zeroValue3 _) mb (i + 1) (upd (seenF seen) s0 1) rfl M5.out (.string s0) s0 rfl KEY.out ?_;rw [show upd (seenF seen) s0 1 s0 = some 1 from if_pos rfl,Option.getD_some]))
    go_roundw
    case rel => exact ⟨true,i + 1,s0 :: seen,by omega,rfl,by go_num,HS,⟨M5.out.of_eq (seenF_cons seen s0)⟩,BK5,HB5⟩
    case measure => simp [intOf];omega
   have hpure := HS.out;rw [if_neg (fun h => hpos h.1)] at hpure;replace HS := am0 hpure;clear hpure;refine region_lit (S := fun W => Below w3.heap.size w3 W ∧ (W.cell? ⟨gb,0,none⟩ = some (.slice A0_0 l0_0.length c0_0) ∧ W.cell? ⟨sb,0,none⟩ = some (.string s0) ∧ W.cell? ⟨sb,1,none⟩ = some (.int .u8 s1) ∧ W.cell? ⟨sb,2,none⟩ = some (.bool s2) ∧ W.cell? ⟨sb,3,none⟩ = some (.int .i64 s3) ∧ W.cell? ⟨sb,4,none⟩ = some (.int .i64 s4) ∧ W.cell? ⟨sb,5,none⟩ = some (.int .i64 s5))) (by kernel_rfl) (by kernel_rfl) (by kernel_rfl) ⟨below_drew1 (Below.refl w3.heap.size w3),HCELL.out _ (below_drew1 (Below.refl w3.heap.size w3))⟩ ?_
   repeat (first
    | (refine gl_skip (by rfl) ?_;simp only [Act.put,List.setIfInBounds_toArray,List.set_cons_zero,List.set_cons_succ])
    | (refine gl_call (f := 44) (v := .int .i64 0) rfl (by rfl) Tryd.func44 (by kernel_rfl) rfl (args := #[.agg #[.string s0, .int .u8 s1, .bool s2, .int .i64 s3, .int .i64 s4, .int .i64 s5], .int .i64 (l0_0.length : Int)]) (by first | (simp only [List.map_toArray,List.map_cons,List.map_nil];done) | (simp only [List.map_toArray,List.map_cons,List.map_nil];rfl)) (fun W hW => (HSV.out W).mono (by rintro e w' ⟨rfl,hb⟩;exact ⟨rfl,below_step hW.1 hb,HCELL.out _ (below_step hW.1 hb)⟩)) ?_;simp only [Act.put,List.setIfInBounds_toArray,List.set_cons_zero,List.set_cons_succ])
    | (refine gl_val (v := ?_) (by rfl) ?_ ?_;rotate_left;(intro W hW;(try dsimp only at hW);go_simp;done);simp only [Act.put,List.setIfInBounds_toArray,List.set_cons_zero,List.set_cons_succ])
    | (refine gl_val (v := ?_) (by rfl) ?_ ?_;rotate_left;(intro W hW;(try dsimp only at hW);go_simp;with_reducible rfl);simp only [Act.put,List.setIfInBounds_toArray,List.set_cons_zero,List.set_cons_succ]))
   refine gl_nil (fun w4 hW => ?_);obtain ⟨hB,hW⟩ := hW;replace HB := am0 (below_step HB.out hB);replace MM := am0 (MM.out.below hB);replace BK := am0 (blk_below BK.out hB);replace BS := am0 (blk_below BS.out hB);clear hB hW;obtain ⟨q0,_⟩ := bx (vs := [.string s0, .int .u8 s1, .bool s2, .int .i64 s3, .int .i64 s4, .int .i64 s5]) BS.out 0 rfl;obtain ⟨q1,_⟩ := bx (vs := [.string s0, .int .u8 s1, .bool s2, .int .i64 s3, .int .i64 s4, .int .i64 s5]) BS.out 1 rfl
   by_cases hb0 : s1 = 0
   ·subst hb0
    have hpure := HS.out;rw [if_pos rfl] at hpure;cases g
    ·replace HS := am0 hpure
     clear hpure;go_wp2
     go_roundw
     case rel => exact ⟨false,i + 1,seen,by omega,rfl,by go_num,HS,⟨MM.out.mono (by omega)⟩,BK,HB⟩
     case measure => simp [intOf];omega
    go_wp2
    go_ret
    refine ⟨?_,HB.out⟩;rw [← HR.out, ← hpure];rfl
   have hpure := HS.out;rw [if_neg hb0] at hpure;have KL : Go.Maps.Keyed Tryd.prog 9 := Go.Maps.string_keyed Tryd.underlying9;have hkey := Go.WideMaps.keyOf_string_mk (P := Tryd.prog) Tryd.underlying9 (s := s0) (by have := HN.out rfl;simp only [maxLen];omega);have KEY := am0 hkey;have hmax : i < maxLen := by simp only [maxLen];omega
   clear hkey
   by_cases hin : s0 ∈ seen
   ·rw [if_pos hin] at hpure
    have hf : seenF seen s0 = some 1 := if_pos hin;replace HS := am0 hpure;clear hpure
    go_wp2_with (first
     | ((with_reducible refine gate_dst (N := 49) rfl ?_);refine wpList_look _ rfl (.tmp 46) (.tmp 48) 56 rfl (K := 9) (e := 3) slit (Value.int .i64) (Go.Proofs.YtalomolellcefaaDoor.Maps.int_inj IntKind.i64) KL Tryd.underlying56 0 (Tryd.zeroValue3 _) mb i (seenF seen) rfl MM.out (.string s0) s0 rfl KEY.out ?_;rw [hf,Option.getD_some])
     | (refine wpList_put _ rfl (.tmp 46) (.tmp 48) (.tmp 50) 56 rfl (K := 9) (e := 3) slit slit_inj (Value.int .i64) (Go.Proofs.YtalomolellcefaaDoor.Maps.int_inj IntKind.i64) KL Tryd.underlying56 mb i hmax (seenF seen) rfl MM.out (.string s0) s0 rfl KEY.out 2 rfl ?_;intro w5 hM hgr;have M5 := am0 hM;have hMM := MM.out;have q5 := bx (vs := [.string s0, .int .u8 s1, .bool s2, .int .i64 s3, .int .i64 s4, .int .i64 s5]) (blk_grown BS.out hgr (by intro h;exact NS.out (Option.some.inj h).symm)) 0 rfl;obtain ⟨q5,_⟩ := q5;have HB5 := am0 (ev_grown HB.out hgr (by intro b hb;cases hb;exact GM.out));clear hM hgr hMM)
     | ((with_reducible refine gate_dst (N := 54) rfl ?_);refine wpList_look _ rfl (.tmp 51) (.tmp 53) 56 rfl (K := 9) (e := 3) slit (Value.int .i64) (Go.Proofs.YtalomolellcefaaDoor.Maps.int_inj IntKind.i64) KL Tryd.underlying56 0 (Tryd.zeroValue3 _) mb (i + 1) (upd (seenF seen) s0 2) rfl M5.out (.string s0) s0 rfl KEY.out ?_;rw [show upd (seenF seen) s0 2 s0 = some 2 from if_pos rfl,Option.getD_some]))
    go_ret
    refine ⟨?_,HB5.out⟩;rw [← HR.out, ← HS.out];rfl
   rw [if_neg hin] at hpure;have hf : seenF seen s0 = none := if_neg hin;replace HS := am0 hpure;clear hpure
   go_wp2_with (first
    | ((with_reducible refine gate_dst (N := 49) rfl ?_);refine wpList_look _ rfl (.tmp 46) (.tmp 48) 56 rfl (K := 9) (e := 3) slit (Value.int .i64) (Go.Proofs.YtalomolellcefaaDoor.Maps.int_inj IntKind.i64) KL Tryd.underlying56 0 (Tryd.zeroValue3 _) mb i (seenF seen) rfl MM.out (.string s0) s0 rfl KEY.out ?_;rw [hf,Option.getD_none])
    | (refine wpList_put _ rfl (.tmp 46) (.tmp 48) (.tmp 50) 56 rfl (K := 9) (e := 3) slit slit_inj (Value.int .i64) (Go.Proofs.YtalomolellcefaaDoor.Maps.int_inj IntKind.i64) KL Tryd.underlying56 mb i hmax (seenF seen) rfl MM.out (.string s0) s0 rfl KEY.out 1 rfl ?_;intro w5 hM hgr;have M5 := am0 hM;have q5 := bx (vs := [.string s0, .int .u8 s1, .bool s2, .int .i64 s3, .int .i64 s4, .int .i64 s5]) (blk_grown BS.out hgr (by intro h;exact NS.out (Option.some.inj h).symm)) 0 rfl;obtain ⟨q5,_⟩ := q5;have BK5 := am0 (blk_grown BK.out hgr (by intro h;exact NG.out (Option.some.inj h)));have HB5 := am0 (ev_grown HB.out hgr (by intro b hb;cases hb;exact GM.out));clear hM hgr)
    | ((with_reducible refine gate_dst (N := 54) rfl ?_);refine wpList_look _ rfl (.tmp 51) (.tmp 53) 56 rfl (K := 9) (e := 3) slit (Value.int .i64) (Go.Proofs.YtalomolellcefaaDoor.Maps.int_inj IntKind.i64) KL Tryd.underlying56 0 (Tryd.zeroValue3 _) mb (i + 1) (upd (seenF seen) s0 1) rfl M5.out (.string s0) s0 rfl KEY.out ?_;rw [show upd (seenF seen) s0 1 s0 = some 1 from if_pos rfl,Option.getD_some]))
   go_roundw
   case rel => exact ⟨true,i + 1,s0 :: seen,by omega,rfl,by go_num,HS,⟨M5.out.of_eq (seenF_cons seen s0)⟩,BK5,HB5⟩
   case measure => simp [intOf];omega
  have he : i = l0_1.length := by omega
  subst he
  have hV : true = V := by
   have h1 := HS.out;rw [List.drop_length] at h1;exact h1
  subst hV;have hnum : ¬ ((l0_1.length : Int) < (l0_1.length : Int)) := by omega
  obtain ⟨z1,_⟩ := bx (vs := [.slice A0_0 l0_0.length c0_0, .slice A0_1 l0_1.length c0_1, .slice A0_2 l0_2.length c0_2, .slice A0_3 l0_3.length c0_3]) BK.out 1 rfl;go_wp2
  all_goals
   go_ret
   refine ⟨?_,HB.out⟩;rw [← HR.out];first | rfl | (simp;omega)
def secsGo (n : Int) : List Int → Int → List Int → Option (List Int)
 | [],_,t => some t
 | x :: l,last,t => if x ≤ last ∨ n < x ∨ x ∈ t then none else secsGo n l x (x :: t)
def signOk (s : ByteArray) : Bool := symOk ⟨s,1,false,0,0,0⟩ 0
def groupGo (n : Int) : List S68 → List ByteArray → List Int → Bool
 | [],_,_ => true
 | g :: l,signs,t =>
  if signOk g.f0 = false then false
  else if g.f0 ∈ signs then false
  else if g.f1.length = 0 then false
  else match secsGo n g.f1 0 t with
   | none => false
   | some t' => groupGo n l (g.f0 :: signs) t'
def groupsV (secs : List S72) (gs : List S68) : Bool := groupGo secs.length gs [] [] && decide (gs.length ≤ 16)
def groupsLen (gs : List S68) : Nat := (gs.map fun g => g.f1.length).sum
def groupsFit (gs : List S68) : Bool := decide (gs.length < 1099511627776) && decide (groupsLen gs < 1099511627776) && gs.all fun g => decide (g.f0.size < 1099511627776) && g.f1.all fun x => (Lit.int .i64 x).wf
def elfw_groupsMay.f (l0_0 : List (S72)) (l0_1 : List (S40)) (l0_2 : List (S94)) (l0_3 : List (S68)) : Option (Bool) := if groupsFit l0_3 then some (groupsV l0_0 l0_3) else none
def seenI (t : List Int) : Int → Option Int := fun y => if y ∈ t then some 1 else none
theorem seenI_cons (t : List Int) (x k : Int) : seenI (x :: t) k = upd (seenI t) x 1 k := by
 unfold seenI upd
 by_cases h : k = x
 ·simp [h]
 by_cases h2 : k ∈ t <;> simp [h,h2]
theorem drop_get {α : Type} (z : α) {l : List α} {i : Nat} (h : i < l.length) : l.drop i = l.getD i z :: l.drop (i + 1) := by
 rw [List.drop_eq_getElem_cons h,List.getD_eq_getElem?_getD,List.getElem?_eq_getElem h,Option.getD_some]
set_option maxHeartbeats 1600000 in
set_option maxRecDepth 100000 in
theorem elfw_groupsMay.calls (A0_0 : Option Addr) (c0_0 : Nat) (l0_0 : List (S72)) (A0_1 : Option Addr) (c0_1 : Nat) (l0_1 : List (S40)) (A0_2 : Option Addr) (c0_2 : Nat) (l0_2 : List (S94)) (A0_3 : Option Addr) (c0_3 : Nat) (l0_3 : List (S68)) (r : Bool) (w : World) (hr0_0 : Kd.C k72 w A0_0 l0_0.length l0_0) (hc0_0 : l0_0.length ≤ c0_0) (hr0_1 : Kd.C k40 w A0_1 l0_1.length l0_1) (hc0_1 : l0_1.length ≤ c0_1) (hr0_2 : Kd.C k94 w A0_2 l0_2.length l0_2) (hc0_2 : l0_2.length ≤ c0_2) (hr0_3 : Kd.C k68 w A0_3 l0_3.length l0_3) (hc0_3 : l0_3.length ≤ c0_3) (h : elfw_groupsMay.f l0_0 l0_1 l0_2 l0_3 = some r) :
  Calls Tryd.prog 36 #[.agg #[.slice A0_0 l0_0.length c0_0, .slice A0_1 l0_1.length c0_1, .slice A0_2 l0_2.length c0_2, .slice A0_3 l0_3.length c0_3]] w fun e w' => e = .returned (.bool r) ∧ Below w.heap.size w w' := by
 have hu35 := Tryd.underlying35;have hu68 := Tryd.underlying68
 obtain ⟨hfit,hR⟩ : groupsFit l0_3 = true ∧ groupsV l0_0 l0_3 = r := by
  unfold elfw_groupsMay.f at h
  split at h
  ·exact ⟨by assumption,Option.some.inj h⟩
  cases h
 clear h;simp only [groupsFit,Bool.and_eq_true,decide_eq_true_eq] at hfit;obtain ⟨⟨hsm,hsum⟩,hall⟩ := hfit;have HALL := am0 (List.all_eq_true.1 hall);clear hall;have HB := am0 (Below.refl w.heap.size w);have HC3 := am0 hr0_3;clear hr0_0 hr0_1 hr0_2 hr0_3;have KL : Go.Maps.Keyed Tryd.prog 9 := Go.Maps.string_keyed Tryd.underlying9;have KI : Go.Maps.Keyed Tryd.prog 3 := Go.Maps.int_keyed Tryd.underlying3;go_enter Tryd.func36,Tryd.ntmps36
 go_wp2_with (first
  | ((with_reducible refine gate_dst (N := 1) rfl ?_);refine box_event ?hg (N := 1) ?hd (cs := #[.slice A0_0 l0_0.length c0_0, .slice A0_1 l0_1.length c0_1, .slice A0_2 l0_2.length c0_2, .slice A0_3 l0_3.length c0_3]) (t := 35) ?hr ?_;(case hd => rfl);(case hg => rfl);(case hr => first | (go_simp;done) | (go_simp;rfl));intro gb hg w1 hbox hb;have BK := am0 hbox;replace HB := am0 (below_step HB.out hb);clear hbox hb hg)
  | ((with_reducible refine gate_dst (N := 11) rfl ?_);refine map_event rfl _ 9 slit (Value.int .i64) rfl ?_;intro mb hg w2 hm hb;have M1 := am0 hm;have NG := am0 (show gb ≠ mb by rw [hg];exact Nat.ne_of_lt (blk_lt BK.out));have GM := am0 (show w.heap.size ≤ mb by rw [hg];exact below_size HB.out);replace BK := am0 (blk_below BK.out hb);replace HB := am0 (below_step HB.out hb);clear hm hb hg)
  | ((with_reducible refine gate_dst (N := 12) rfl ?_);refine map_event rfl _ 3 ilit (Value.int .i64) rfl ?_;intro nb hg w3 hm hb;have M2 := am0 hm;have N12 := am0 (show mb ≠ nb by rw [hg];exact Nat.ne_of_lt M1.out.lt);have NG2 := am0 (show gb ≠ nb by rw [hg];exact Nat.ne_of_lt (blk_lt BK.out));have GM2 := am0 (show w.heap.size ≤ nb by rw [hg];exact below_size HB.out);replace BK := am0 (blk_below BK.out hb);replace M1 := am0 (M1.out.below hb);replace HB := am0 (below_step HB.out hb);obtain ⟨z3,_⟩ := bx (vs := [.slice A0_0 l0_0.length c0_0, .slice A0_1 l0_1.length c0_1, .slice A0_2 l0_2.length c0_2, .slice A0_3 l0_3.length c0_3]) BK.out 3 rfl;clear hm hb hg))
 clear z3;obtain ⟨V,hV⟩ : ∃ V,groupGo l0_0.length l0_3 [] [] = V := ⟨_,rfl⟩;have HV := am0 hV;have HR := am0 (show (V && decide (l0_3.length ≤ 16)) = r by rw [← hR, ← hV];rfl);clear hV hR;go_loopw [16] (fun vi wr => ∃ (i : Nat) (signs : List ByteArray) (t : List Int) (n2 : Nat),i ≤ l0_3.length ∧ vi = .int .i64 (i : Int) ∧ Aside0 (groupGo l0_0.length (l0_3.drop i) signs t = V) ∧ Aside0 (MapIs Tryd.prog 9 slit (Value.int .i64) wr mb i (seenF signs)) ∧ Aside0 (MapIs Tryd.prog 3 ilit (Value.int .i64) wr nb n2 (seenI t)) ∧ Aside0 (n2 + groupsLen (l0_3.drop i) ≤ groupsLen l0_3) ∧ Aside0 (wr.heap[gb]? = some (.cells #[.slice A0_0 l0_0.length c0_0, .slice A0_1 l0_1.length c0_1, .slice A0_2 l0_2.length c0_2, .slice A0_3 l0_3.length c0_3] 35 (0,0))) ∧ Aside0 (Below w.heap.size w wr)) (fun vi _ => l0_3.length - (intOf vi).toNat)
 case atStart => exact ⟨0,[],[],0,by omega,rfl,HV,⟨M1.out.of_eq (fun k => by simp [seenF])⟩,⟨M2.out.of_eq (fun k => by simp [seenI])⟩,⟨by simp⟩,BK,HB⟩
 case round =>
  clear M1 M2 BK HB HV;obtain ⟨i,signs,t,n2,hi,rfl,HS,M1,M2,HN,BK,HB⟩ := hrel
  by_cases hlt : i < l0_3.length
  ·obtain ⟨ad,A1,c1,eA,x0,x1,l1,g1⟩ := at_T68 HC3.out (i : Int) (by omega) (by omega)
   subst eA;rw [show ((i : Int)).toNat = i from rfl] at x0 x1;replace x0 := cell_keep HB.out x0;replace x1 := cell_keep HB.out x1;have hnum : (i : Int) < (l0_3.length : Int) := by omega
   go_upto_region 5 with (fail)
   clear x0 x1;generalize hw3 : wr.alloc _ = w3;obtain ⟨hbox,hb⟩ := alloc_facts hw3;have NS := am0 (show mb ≠ wr.heap.size from Nat.ne_of_lt M1.out.lt);have NS2 := am0 (show nb ≠ wr.heap.size from Nat.ne_of_lt M2.out.lt);have GS := am0 (show w.heap.size ≤ wr.heap.size from below_size HB.out);have HR1 := am0 g1;clear hw3 g1;generalize wr.heap.size = sb at hbox NS NS2 GS ⊢;have BS := am0 hbox;replace BK := am0 (blk_below BK.out hb);replace M1 := am0 (M1.out.below hb);replace M2 := am0 (M2.out.below hb);replace HB := am0 (below_step HB.out hb);clear hbox hb;have hdrop : l0_3.drop i = rd_T68 l0_3 (i : Int) :: l0_3.drop (i + 1) := drop_get z68 hlt
   have hgood := HALL.out (rd_T68 l0_3 (i : Int)) (by
    have : rd_T68 l0_3 (i : Int) ∈ l0_3.drop i := by rw [hdrop];exact List.mem_cons_self
    exact List.mem_of_mem_drop this)
   have hpure := HS.out;have hsl := HN.out;rw [hdrop] at hpure hsl;rw [groupGo] at hpure;generalize rd_T68 l0_3 (i : Int) = g at BS hpure hsl hgood HR1 l1 ⊢;obtain ⟨s0,xs⟩ := g;simp only [Bool.and_eq_true,decide_eq_true_eq] at hgood
   dsimp only at BS hpure HR1 l1 ⊢;obtain ⟨hs0,hwf⟩ := hgood;have HWF := am0 (List.all_eq_true.1 hwf);have hsl2 : n2 + (xs.length + groupsLen (l0_3.drop (i + 1))) ≤ groupsLen l0_3 := by simpa [groupsLen] using hsl
   have HSL := am0 hsl2;have hxb : xs.length < 1099511627776 := by omega
   clear hsl hsl2 hwf hdrop HN HS;have HSV := am0 (fun W => sym_Check.calls 34 s0 1 false 0 0 0 0 _ W (sym_val 0 ⟨s0,1,false,0,0,0⟩ 0));have hcv := symV_zero ⟨s0,1,false,0,0,0⟩ 0;rw [show symOk ⟨s0,1,false,0,0,0⟩ 0 = signOk s0 from rfl] at hcv;generalize symV ⟨s0,1,false,0,0,0⟩ 0 = cv at HSV hcv;have KEY := am0 (WideMaps.keyOf_string_mk (P := Tryd.prog) Tryd.underlying9 (s := s0) (by simp only [maxLen];omega));have hmax : i < maxLen := by simp only [maxLen];omega
   obtain ⟨q0,_⟩ := bx (vs := [.string s0, .slice A1 xs.length c1]) BS.out 0 rfl;have hxl : (0 : Int) ≤ (xs.length : Int) := by omega
   by_cases hin : s0 ∈ signs
   ·have hf : seenF signs s0 = some 1 := if_pos hin
    have hV : V = false := by
     rw [← hpure];cases signOk s0
     ·rfl
     rw [if_neg (by decide),if_pos hin]
    have HV := am0 hV;clear hV hpure hin hcv
    by_cases hok : cv = 0
    ·subst hok
     go_wp2_with (first
      | (go_at_call 44;refine (HSV.out _).mono ?_;rintro e w4 ⟨rfl,hb⟩;have HB4 := am0 (below_step HB.out hb);have M14 := am0 (M1.out.below hb);have M24 := am0 (M2.out.below hb);have BK4 := am0 (blk_below BK.out hb);have BS4 := am0 (blk_below BS.out hb);clear q0;obtain ⟨q0,_⟩ := bx (vs := [.string s0, .slice A1 xs.length c1]) BS4.out 0 rfl;clear hb)
      | ((with_reducible refine gate_dst (N := 28) rfl ?_);refine wpList_look _ rfl (.tmp 25) (.tmp 27) 56 rfl (K := 9) (e := 3) slit (Value.int .i64) (Go.Proofs.YtalomolellcefaaDoor.Maps.int_inj IntKind.i64) KL Tryd.underlying56 0 (Tryd.zeroValue3 _) mb i (seenF signs) rfl M14.out (.string s0) s0 rfl KEY.out ?_;rw [hf,Option.getD_some])
      | (refine wpList_put _ rfl (.tmp 25) (.tmp 27) (.tmp 29) 56 rfl (K := 9) (e := 3) slit slit_inj (Value.int .i64) (Go.Proofs.YtalomolellcefaaDoor.Maps.int_inj IntKind.i64) KL Tryd.underlying56 mb i hmax (seenF signs) rfl M14.out (.string s0) s0 rfl KEY.out 2 rfl ?_;intro w5 hM hgr;have M15 := am0 hM;have M25 := am0 (M24.out.kept hgr (by intro h;exact N12.out (Option.some.inj h).symm));have BS5 := am0 (blk_grown BS4.out hgr (by intro h;exact NS.out (Option.some.inj h).symm));have BK5 := am0 (blk_grown BK4.out hgr (by intro h;exact NG.out (Option.some.inj h)));have HB5 := am0 (ev_grown HB4.out hgr (by intro b hb;cases hb;exact GM.out));clear q0;obtain ⟨q0,_⟩ := bx (vs := [.string s0, .slice A1 xs.length c1]) BS5.out 0 rfl;obtain ⟨q1,_⟩ := bx (vs := [.string s0, .slice A1 xs.length c1]) BS5.out 1 rfl;obtain ⟨z0,_⟩ := bx (vs := [.slice A0_0 l0_0.length c0_0, .slice A0_1 l0_1.length c0_1, .slice A0_2 l0_2.length c0_2, .slice (some ad) l0_3.length c0_3]) BK5.out 0 rfl;clear hM hgr)
      | ((with_reducible refine gate_dst (N := 36) rfl ?_);refine wpList_look _ rfl (.tmp 33) (.tmp 35) 56 rfl (K := 9) (e := 3) slit (Value.int .i64) (Go.Proofs.YtalomolellcefaaDoor.Maps.int_inj IntKind.i64) KL Tryd.underlying56 0 (Tryd.zeroValue3 _) mb (i + 1) (upd (seenF signs) s0 2) rfl M15.out (.string s0) s0 rfl KEY.out ?_;rw [show upd (seenF signs) s0 2 s0 = some 2 from if_pos rfl,Option.getD_some]))
     all_goals
      go_ret
      refine ⟨?_,HB5.out⟩;rw [← HR.out,HV.out];rfl
    have hv2 : (cv == 0) = false := by simpa using hok
    go_wp2_with (first
     | (go_at_call 44;refine (HSV.out _).mono ?_;rintro e w4 ⟨rfl,hb⟩;have HB4 := am0 (below_step HB.out hb);have M14 := am0 (M1.out.below hb);have M24 := am0 (M2.out.below hb);have BK4 := am0 (blk_below BK.out hb);have BS4 := am0 (blk_below BS.out hb);clear q0;obtain ⟨q0,_⟩ := bx (vs := [.string s0, .slice A1 xs.length c1]) BS4.out 0 rfl;clear hb)
     | ((with_reducible refine gate_dst (N := 28) rfl ?_);refine wpList_look _ rfl (.tmp 25) (.tmp 27) 56 rfl (K := 9) (e := 3) slit (Value.int .i64) (Go.Proofs.YtalomolellcefaaDoor.Maps.int_inj IntKind.i64) KL Tryd.underlying56 0 (Tryd.zeroValue3 _) mb i (seenF signs) rfl M14.out (.string s0) s0 rfl KEY.out ?_;rw [hf,Option.getD_some])
     | (refine wpList_put _ rfl (.tmp 25) (.tmp 27) (.tmp 29) 56 rfl (K := 9) (e := 3) slit slit_inj (Value.int .i64) (Go.Proofs.YtalomolellcefaaDoor.Maps.int_inj IntKind.i64) KL Tryd.underlying56 mb i hmax (seenF signs) rfl M14.out (.string s0) s0 rfl KEY.out 2 rfl ?_;intro w5 hM hgr;have M15 := am0 hM;have M25 := am0 (M24.out.kept hgr (by intro h;exact N12.out (Option.some.inj h).symm));have BS5 := am0 (blk_grown BS4.out hgr (by intro h;exact NS.out (Option.some.inj h).symm));have BK5 := am0 (blk_grown BK4.out hgr (by intro h;exact NG.out (Option.some.inj h)));have HB5 := am0 (ev_grown HB4.out hgr (by intro b hb;cases hb;exact GM.out));clear q0;obtain ⟨q0,_⟩ := bx (vs := [.string s0, .slice A1 xs.length c1]) BS5.out 0 rfl;obtain ⟨q1,_⟩ := bx (vs := [.string s0, .slice A1 xs.length c1]) BS5.out 1 rfl;obtain ⟨z0,_⟩ := bx (vs := [.slice A0_0 l0_0.length c0_0, .slice A0_1 l0_1.length c0_1, .slice A0_2 l0_2.length c0_2, .slice (some ad) l0_3.length c0_3]) BK5.out 0 rfl;clear hM hgr)
     | ((with_reducible refine gate_dst (N := 36) rfl ?_);refine wpList_look _ rfl (.tmp 33) (.tmp 35) 56 rfl (K := 9) (e := 3) slit (Value.int .i64) (Go.Proofs.YtalomolellcefaaDoor.Maps.int_inj IntKind.i64) KL Tryd.underlying56 0 (Tryd.zeroValue3 _) mb (i + 1) (upd (seenF signs) s0 2) rfl M15.out (.string s0) s0 rfl KEY.out ?_;rw [show upd (seenF signs) s0 2 s0 = some 2 from if_pos rfl,Option.getD_some]))
    all_goals
     go_ret
     refine ⟨?_,HB5.out⟩;rw [← HR.out,HV.out];rfl
   have hf : seenF signs s0 = none := if_neg hin
   by_cases hok : cv = 0
   ·subst hok
    rw [hcv.1 rfl,if_neg (by decide),if_neg hin] at hpure;clear hcv
    by_cases hnil : xs.length = 0
    ·rw [if_pos hnil] at hpure
     have HV := am0 hpure.symm;have hnil2 : (xs.length : Int) = 0 := by omega
     clear hpure hin
     go_wp2_with (first
      | (go_at_call 44;refine (HSV.out _).mono ?_;rintro e w4 ⟨rfl,hb⟩;have HB4 := am0 (below_step HB.out hb);have M14 := am0 (M1.out.below hb);have M24 := am0 (M2.out.below hb);have BK4 := am0 (blk_below BK.out hb);have BS4 := am0 (blk_below BS.out hb);clear q0;obtain ⟨q0,_⟩ := bx (vs := [.string s0, .slice A1 xs.length c1]) BS4.out 0 rfl;clear hb)
      | ((with_reducible refine gate_dst (N := 28) rfl ?_);refine wpList_look _ rfl (.tmp 25) (.tmp 27) 56 rfl (K := 9) (e := 3) slit (Value.int .i64) (Go.Proofs.YtalomolellcefaaDoor.Maps.int_inj IntKind.i64) KL Tryd.underlying56 0 (Tryd.zeroValue3 _) mb i (seenF signs) rfl M14.out (.string s0) s0 rfl KEY.out ?_;rw [hf,Option.getD_none])
      | (refine wpList_put _ rfl (.tmp 25) (.tmp 27) (.tmp 29) 56 rfl (K := 9) (e := 3) slit slit_inj (Value.int .i64) (Go.Proofs.YtalomolellcefaaDoor.Maps.int_inj IntKind.i64) KL Tryd.underlying56 mb i hmax (seenF signs) rfl M14.out (.string s0) s0 rfl KEY.out 1 rfl ?_;intro w5 hM hgr;have M15 := am0 hM;have M25 := am0 (M24.out.kept hgr (by intro h;exact N12.out (Option.some.inj h).symm));have BS5 := am0 (blk_grown BS4.out hgr (by intro h;exact NS.out (Option.some.inj h).symm));have BK5 := am0 (blk_grown BK4.out hgr (by intro h;exact NG.out (Option.some.inj h)));have HB5 := am0 (ev_grown HB4.out hgr (by intro b hb;cases hb;exact GM.out));clear q0;obtain ⟨q0,_⟩ := bx (vs := [.string s0, .slice A1 xs.length c1]) BS5.out 0 rfl;obtain ⟨q1,_⟩ := bx (vs := [.string s0, .slice A1 xs.length c1]) BS5.out 1 rfl;obtain ⟨z0,_⟩ := bx (vs := [.slice A0_0 l0_0.length c0_0, .slice A0_1 l0_1.length c0_1, .slice A0_2 l0_2.length c0_2, .slice (some ad) l0_3.length c0_3]) BK5.out 0 rfl;clear hM hgr)
      | ((with_reducible refine gate_dst (N := 36) rfl ?_);refine wpList_look _ rfl (.tmp 33) (.tmp 35) 56 rfl (K := 9) (e := 3) slit (Value.int .i64) (Go.Proofs.YtalomolellcefaaDoor.Maps.int_inj IntKind.i64) KL Tryd.underlying56 0 (Tryd.zeroValue3 _) mb (i + 1) (upd (seenF signs) s0 1) rfl M15.out (.string s0) s0 rfl KEY.out ?_;rw [show upd (seenF signs) s0 1 s0 = some 1 from if_pos rfl,Option.getD_some]))
     all_goals
      go_ret
      refine ⟨?_,HB5.out⟩;rw [← HR.out,HV.out];rfl
    rw [if_neg hnil] at hpure;have HS := am0 hpure;have hnil2 : ¬ (xs.length : Int) = 0 := by omega
    clear hpure hin
    go_wp2_with (first
     | (go_at_call 44;refine (HSV.out _).mono ?_;rintro e w4 ⟨rfl,hb⟩;have HB4 := am0 (below_step HB.out hb);have M14 := am0 (M1.out.below hb);have M24 := am0 (M2.out.below hb);have BK4 := am0 (blk_below BK.out hb);have BS4 := am0 (blk_below BS.out hb);clear q0;obtain ⟨q0,_⟩ := bx (vs := [.string s0, .slice A1 xs.length c1]) BS4.out 0 rfl;clear hb)
     | ((with_reducible refine gate_dst (N := 28) rfl ?_);refine wpList_look _ rfl (.tmp 25) (.tmp 27) 56 rfl (K := 9) (e := 3) slit (Value.int .i64) (Go.Proofs.YtalomolellcefaaDoor.Maps.int_inj IntKind.i64) KL Tryd.underlying56 0 (Tryd.zeroValue3 _) mb i (seenF signs) rfl M14.out (.string s0) s0 rfl KEY.out ?_;rw [hf,Option.getD_none])
     | (refine wpList_put _ rfl (.tmp 25) (.tmp 27) (.tmp 29) 56 rfl (K := 9) (e := 3) slit slit_inj (Value.int .i64) (Go.Proofs.YtalomolellcefaaDoor.Maps.int_inj IntKind.i64) KL Tryd.underlying56 mb i hmax (seenF signs) rfl M14.out (.string s0) s0 rfl KEY.out 1 rfl ?_;intro w5 hM hgr;have M15 := am0 hM;have M25 := am0 (M24.out.kept hgr (by intro h;exact N12.out (Option.some.inj h).symm));have BS5 := am0 (blk_grown BS4.out hgr (by intro h;exact NS.out (Option.some.inj h).symm));have BK5 := am0 (blk_grown BK4.out hgr (by intro h;exact NG.out (Option.some.inj h)));have HB5 := am0 (ev_grown HB4.out hgr (by intro b hb;cases hb;exact GM.out));clear q0;obtain ⟨q0,_⟩ := bx (vs := [.string s0, .slice A1 xs.length c1]) BS5.out 0 rfl;obtain ⟨q1,_⟩ := bx (vs := [.string s0, .slice A1 xs.length c1]) BS5.out 1 rfl;obtain ⟨z0,_⟩ := bx (vs := [.slice A0_0 l0_0.length c0_0, .slice A0_1 l0_1.length c0_1, .slice A0_2 l0_2.length c0_2, .slice (some ad) l0_3.length c0_3]) BK5.out 0 rfl;clear hM hgr)
     | ((with_reducible refine gate_dst (N := 36) rfl ?_);refine wpList_look _ rfl (.tmp 33) (.tmp 35) 56 rfl (K := 9) (e := 3) slit (Value.int .i64) (Go.Proofs.YtalomolellcefaaDoor.Maps.int_inj IntKind.i64) KL Tryd.underlying56 0 (Tryd.zeroValue3 _) mb (i + 1) (upd (seenF signs) s0 1) rfl M15.out (.string s0) s0 rfl KEY.out ?_;rw [show upd (seenF signs) s0 1 s0 = some 1 from if_pos rfl,Option.getD_some]))
    clear q0 q1 z0 hf;go_loopw [8,48] (fun vl vk wk => ∃ (last : Int) (k : Nat) (t' : List Int),k ≤ xs.length ∧ vl = .int .i64 last ∧ vk = .int .i64 (k : Int) ∧ Aside0 ((match secsGo l0_0.length (xs.drop k) last t' with | none => false | some q => groupGo l0_0.length (l0_3.drop (i + 1)) (s0 :: signs) q) = V) ∧ Aside0 (MapIs Tryd.prog 9 slit (Value.int .i64) wk mb (i + 1) (seenF (s0 :: signs))) ∧ Aside0 (MapIs Tryd.prog 3 ilit (Value.int .i64) wk nb (n2 + k) (seenI t')) ∧ Aside0 (wk.heap[gb]? = some (.cells #[.slice A0_0 l0_0.length c0_0, .slice A0_1 l0_1.length c0_1, .slice A0_2 l0_2.length c0_2, .slice (some ad) l0_3.length c0_3] 35 (0,0))) ∧ Aside0 (Below w.heap.size w wk)) (fun _ vk _ => xs.length - (intOf vk).toNat)
    case atStart => exact ⟨0,0,t,by omega,rfl,rfl,HS,⟨M15.out.of_eq (seenF_cons signs s0)⟩,M25,BK5,HB5⟩
    case round =>
     clear HS M14 M24 BK4 BS4 HB4 M15 M25 BS5 BK5 HB5 M1 M2 BS BK HB;obtain ⟨last,k,t',hk,rfl,rfl,HS,M1,M2,BK,HB⟩ := hrel
     by_cases hlk : k < xs.length
     ·obtain ⟨ad1,eA1,y0⟩ := Kd.at_int (Kd.C_below HR1.out HB.out) (k : Int) (by omega) (by omega)
      subst eA1;rw [show ((k : Int)).toNat = k from rfl] at y0;have hnk : (k : Int) < (xs.length : Int) := by omega
      have hdk : xs.drop k = rd xs (k : Int) :: xs.drop (k + 1) := drop_get 0 hlk
      have hmemx : rd xs (k : Int) ∈ xs := by
       have : rd xs (k : Int) ∈ xs.drop k := by rw [hdk];exact List.mem_cons_self
       exact List.mem_of_mem_drop this
      have hwx := HWF.out _ hmemx;have hpure := HS.out;rw [hdk,secsGo] at hpure;clear hmemx hdk;generalize rd xs (k : Int) = x at y0 hwx hpure;have KEYI := am0 (Go.Maps.keyOf_int_mk (P := Tryd.prog) (q := .i64) Tryd.underlying3 hwx);clear hwx;have hm2 : n2 + k < maxLen := by have := HSL.out;simp only [maxLen];omega
      obtain ⟨z0,_⟩ := bx (vs := [.slice A0_0 l0_0.length c0_0, .slice A0_1 l0_1.length c0_1, .slice A0_2 l0_2.length c0_2, .slice (some ad) l0_3.length c0_3]) BK.out 0 rfl;have hno : (x ≤ last ∨ (l0_0.length : Int) < x ∨ x ∈ t') ∨ ¬ (x ≤ last ∨ (l0_0.length : Int) < x ∨ x ∈ t') := Classical.em _;rcases hno with hno | hno
      ·rw [if_pos hno] at hpure
       have HV := am0 hpure.symm;clear hpure HS
       by_cases hmem : x ∈ t'
       ·have hf : seenI t' x = some 1 := if_pos hmem
        clear hmem hno
        by_cases hle : x ≤ last
        ·go_wp2_with (first
          | ((with_reducible refine gate_dst (N := 54) rfl ?_);refine wpList_look _ rfl (.tmp 52) (.tmp 53) 98 rfl (K := 3) (e := 3) ilit (Value.int .i64) (Go.Proofs.YtalomolellcefaaDoor.Maps.int_inj IntKind.i64) KI Tryd.underlying98 0 (Tryd.zeroValue3 _) nb (n2 + k) (seenI t') rfl M2.out (.int .i64 x) x rfl KEYI.out ?_;rw [hf,Option.getD_some])
          | (refine wpList_put _ rfl (.tmp 52) (.tmp 53) (.tmp 55) 98 rfl (K := 3) (e := 3) ilit ilit_inj (Value.int .i64) (Go.Proofs.YtalomolellcefaaDoor.Maps.int_inj IntKind.i64) KI Tryd.underlying98 nb (n2 + k) hm2 (seenI t') rfl M2.out (.int .i64 x) x rfl KEYI.out 2 rfl ?_;intro w6 hM hgr;have M26 := am0 hM;have M16 := am0 (M1.out.kept hgr (by intro h;exact N12.out (Option.some.inj h)));have BK6 := am0 (blk_grown BK.out hgr (by intro h;exact NG2.out (Option.some.inj h)));have HB6 := am0 (ev_grown HB.out hgr (by intro b hb;cases hb;exact GM2.out));clear z0;obtain ⟨z0,_⟩ := bx (vs := [.slice A0_0 l0_0.length c0_0, .slice A0_1 l0_1.length c0_1, .slice A0_2 l0_2.length c0_2, .slice (some ad) l0_3.length c0_3]) BK6.out 0 rfl;clear hM hgr)
          | ((with_reducible refine gate_dst (N := 69) rfl ?_);refine wpList_look _ rfl (.tmp 67) (.tmp 68) 98 rfl (K := 3) (e := 3) ilit (Value.int .i64) (Go.Proofs.YtalomolellcefaaDoor.Maps.int_inj IntKind.i64) KI Tryd.underlying98 0 (Tryd.zeroValue3 _) nb (n2 + k + 1) (upd (seenI t') x 2) rfl M26.out (.int .i64 x) x rfl KEYI.out ?_;rw [show upd (seenI t') x 2 x = some 2 from if_pos rfl,Option.getD_some]))
         all_goals
          go_ret
          refine ⟨?_,HB6.out⟩;rw [← HR.out,HV.out];rfl
        by_cases hgt : (l0_0.length : Int) < x
        ·go_wp2_with (first
          | ((with_reducible refine gate_dst (N := 54) rfl ?_);refine wpList_look _ rfl (.tmp 52) (.tmp 53) 98 rfl (K := 3) (e := 3) ilit (Value.int .i64) (Go.Proofs.YtalomolellcefaaDoor.Maps.int_inj IntKind.i64) KI Tryd.underlying98 0 (Tryd.zeroValue3 _) nb (n2 + k) (seenI t') rfl M2.out (.int .i64 x) x rfl KEYI.out ?_;rw [hf,Option.getD_some])
          | (refine wpList_put _ rfl (.tmp 52) (.tmp 53) (.tmp 55) 98 rfl (K := 3) (e := 3) ilit ilit_inj (Value.int .i64) (Go.Proofs.YtalomolellcefaaDoor.Maps.int_inj IntKind.i64) KI Tryd.underlying98 nb (n2 + k) hm2 (seenI t') rfl M2.out (.int .i64 x) x rfl KEYI.out 2 rfl ?_;intro w6 hM hgr;have M26 := am0 hM;have M16 := am0 (M1.out.kept hgr (by intro h;exact N12.out (Option.some.inj h)));have BK6 := am0 (blk_grown BK.out hgr (by intro h;exact NG2.out (Option.some.inj h)));have HB6 := am0 (ev_grown HB.out hgr (by intro b hb;cases hb;exact GM2.out));clear z0;obtain ⟨z0,_⟩ := bx (vs := [.slice A0_0 l0_0.length c0_0, .slice A0_1 l0_1.length c0_1, .slice A0_2 l0_2.length c0_2, .slice (some ad) l0_3.length c0_3]) BK6.out 0 rfl;clear hM hgr)
          | ((with_reducible refine gate_dst (N := 69) rfl ?_);refine wpList_look _ rfl (.tmp 67) (.tmp 68) 98 rfl (K := 3) (e := 3) ilit (Value.int .i64) (Go.Proofs.YtalomolellcefaaDoor.Maps.int_inj IntKind.i64) KI Tryd.underlying98 0 (Tryd.zeroValue3 _) nb (n2 + k + 1) (upd (seenI t') x 2) rfl M26.out (.int .i64 x) x rfl KEYI.out ?_;rw [show upd (seenI t') x 2 x = some 2 from if_pos rfl,Option.getD_some]))
         all_goals
          go_ret
          refine ⟨?_,HB6.out⟩;rw [← HR.out,HV.out];rfl
        go_wp2_with (first
         | ((with_reducible refine gate_dst (N := 54) rfl ?_);refine wpList_look _ rfl (.tmp 52) (.tmp 53) 98 rfl (K := 3) (e := 3) ilit (Value.int .i64) (Go.Proofs.YtalomolellcefaaDoor.Maps.int_inj IntKind.i64) KI Tryd.underlying98 0 (Tryd.zeroValue3 _) nb (n2 + k) (seenI t') rfl M2.out (.int .i64 x) x rfl KEYI.out ?_;rw [hf,Option.getD_some])
         | (refine wpList_put _ rfl (.tmp 52) (.tmp 53) (.tmp 55) 98 rfl (K := 3) (e := 3) ilit ilit_inj (Value.int .i64) (Go.Proofs.YtalomolellcefaaDoor.Maps.int_inj IntKind.i64) KI Tryd.underlying98 nb (n2 + k) hm2 (seenI t') rfl M2.out (.int .i64 x) x rfl KEYI.out 2 rfl ?_;intro w6 hM hgr;have M26 := am0 hM;have M16 := am0 (M1.out.kept hgr (by intro h;exact N12.out (Option.some.inj h)));have BK6 := am0 (blk_grown BK.out hgr (by intro h;exact NG2.out (Option.some.inj h)));have HB6 := am0 (ev_grown HB.out hgr (by intro b hb;cases hb;exact GM2.out));clear z0;obtain ⟨z0,_⟩ := bx (vs := [.slice A0_0 l0_0.length c0_0, .slice A0_1 l0_1.length c0_1, .slice A0_2 l0_2.length c0_2, .slice (some ad) l0_3.length c0_3]) BK6.out 0 rfl;clear hM hgr)
         | ((with_reducible refine gate_dst (N := 69) rfl ?_);refine wpList_look _ rfl (.tmp 67) (.tmp 68) 98 rfl (K := 3) (e := 3) ilit (Value.int .i64) (Go.Proofs.YtalomolellcefaaDoor.Maps.int_inj IntKind.i64) KI Tryd.underlying98 0 (Tryd.zeroValue3 _) nb (n2 + k + 1) (upd (seenI t') x 2) rfl M26.out (.int .i64 x) x rfl KEYI.out ?_;rw [show upd (seenI t') x 2 x = some 2 from if_pos rfl,Option.getD_some]))
        all_goals
         go_ret
         refine ⟨?_,HB6.out⟩;rw [← HR.out,HV.out];rfl
       have hf : seenI t' x = none := if_neg hmem
       by_cases hle : x ≤ last
       ·clear hmem hno
        go_wp2_with (first
         | ((with_reducible refine gate_dst (N := 54) rfl ?_);refine wpList_look _ rfl (.tmp 52) (.tmp 53) 98 rfl (K := 3) (e := 3) ilit (Value.int .i64) (Go.Proofs.YtalomolellcefaaDoor.Maps.int_inj IntKind.i64) KI Tryd.underlying98 0 (Tryd.zeroValue3 _) nb (n2 + k) (seenI t') rfl M2.out (.int .i64 x) x rfl KEYI.out ?_;rw [hf,Option.getD_none])
         | (refine wpList_put _ rfl (.tmp 52) (.tmp 53) (.tmp 55) 98 rfl (K := 3) (e := 3) ilit ilit_inj (Value.int .i64) (Go.Proofs.YtalomolellcefaaDoor.Maps.int_inj IntKind.i64) KI Tryd.underlying98 nb (n2 + k) hm2 (seenI t') rfl M2.out (.int .i64 x) x rfl KEYI.out 1 rfl ?_;intro w6 hM hgr;have M26 := am0 hM;have M16 := am0 (M1.out.kept hgr (by intro h;exact N12.out (Option.some.inj h)));have BK6 := am0 (blk_grown BK.out hgr (by intro h;exact NG2.out (Option.some.inj h)));have HB6 := am0 (ev_grown HB.out hgr (by intro b hb;cases hb;exact GM2.out));clear z0;obtain ⟨z0,_⟩ := bx (vs := [.slice A0_0 l0_0.length c0_0, .slice A0_1 l0_1.length c0_1, .slice A0_2 l0_2.length c0_2, .slice (some ad) l0_3.length c0_3]) BK6.out 0 rfl;clear hM hgr)
         | ((with_reducible refine gate_dst (N := 69) rfl ?_);refine wpList_look _ rfl (.tmp 67) (.tmp 68) 98 rfl (K := 3) (e := 3) ilit (Value.int .i64) (Go.Proofs.YtalomolellcefaaDoor.Maps.int_inj IntKind.i64) KI Tryd.underlying98 0 (Tryd.zeroValue3 _) nb (n2 + k + 1) (upd (seenI t') x 1) rfl M26.out (.int .i64 x) x rfl KEYI.out ?_;rw [show upd (seenI t') x 1 x = some 1 from if_pos rfl,Option.getD_some]))
        all_goals
         go_ret
         refine ⟨?_,HB6.out⟩;rw [← HR.out,HV.out];rfl
       have hgt : (l0_0.length : Int) < x := by
        rcases hno with h | h | h
        ·exact absurd h hle
        ·exact h
        exact absurd h hmem
       clear hmem hno
       go_wp2_with (first
        | ((with_reducible refine gate_dst (N := 54) rfl ?_);refine wpList_look _ rfl (.tmp 52) (.tmp 53) 98 rfl (K := 3) (e := 3) ilit (Value.int .i64) (Go.Proofs.YtalomolellcefaaDoor.Maps.int_inj IntKind.i64) KI Tryd.underlying98 0 (Tryd.zeroValue3 _) nb (n2 + k) (seenI t') rfl M2.out (.int .i64 x) x rfl KEYI.out ?_;rw [hf,Option.getD_none])
        | (refine wpList_put _ rfl (.tmp 52) (.tmp 53) (.tmp 55) 98 rfl (K := 3) (e := 3) ilit ilit_inj (Value.int .i64) (Go.Proofs.YtalomolellcefaaDoor.Maps.int_inj IntKind.i64) KI Tryd.underlying98 nb (n2 + k) hm2 (seenI t') rfl M2.out (.int .i64 x) x rfl KEYI.out 1 rfl ?_;intro w6 hM hgr;have M26 := am0 hM;have M16 := am0 (M1.out.kept hgr (by intro h;exact N12.out (Option.some.inj h)));have BK6 := am0 (blk_grown BK.out hgr (by intro h;exact NG2.out (Option.some.inj h)));have HB6 := am0 (ev_grown HB.out hgr (by intro b hb;cases hb;exact GM2.out));clear z0;obtain ⟨z0,_⟩ := bx (vs := [.slice A0_0 l0_0.length c0_0, .slice A0_1 l0_1.length c0_1, .slice A0_2 l0_2.length c0_2, .slice (some ad) l0_3.length c0_3]) BK6.out 0 rfl;clear hM hgr)
        | ((with_reducible refine gate_dst (N := 69) rfl ?_);refine wpList_look _ rfl (.tmp 67) (.tmp 68) 98 rfl (K := 3) (e := 3) ilit (Value.int .i64) (Go.Proofs.YtalomolellcefaaDoor.Maps.int_inj IntKind.i64) KI Tryd.underlying98 0 (Tryd.zeroValue3 _) nb (n2 + k + 1) (upd (seenI t') x 1) rfl M26.out (.int .i64 x) x rfl KEYI.out ?_;rw [show upd (seenI t') x 1 x = some 1 from if_pos rfl,Option.getD_some]))
       all_goals
        go_ret
        refine ⟨?_,HB6.out⟩;rw [← HR.out,HV.out];rfl
      rw [if_neg hno] at hpure;have hle : ¬ x ≤ last := fun h => hno (.inl h)
      have hgt : ¬ (l0_0.length : Int) < x := fun h => hno (.inr (.inl h))
      have hf : seenI t' x = none := if_neg (fun h => hno (.inr (.inr h)));replace HS := am0 hpure;clear hpure hno
      go_wp2_with (first
       | ((with_reducible refine gate_dst (N := 54) rfl ?_);refine wpList_look _ rfl (.tmp 52) (.tmp 53) 98 rfl (K := 3) (e := 3) ilit (Value.int .i64) (Go.Proofs.YtalomolellcefaaDoor.Maps.int_inj IntKind.i64) KI Tryd.underlying98 0 (Tryd.zeroValue3 _) nb (n2 + k) (seenI t') rfl M2.out (.int .i64 x) x rfl KEYI.out ?_;rw [hf,Option.getD_none])
       | (refine wpList_put _ rfl (.tmp 52) (.tmp 53) (.tmp 55) 98 rfl (K := 3) (e := 3) ilit ilit_inj (Value.int .i64) (Go.Proofs.YtalomolellcefaaDoor.Maps.int_inj IntKind.i64) KI Tryd.underlying98 nb (n2 + k) hm2 (seenI t') rfl M2.out (.int .i64 x) x rfl KEYI.out 1 rfl ?_;intro w6 hM hgr;have M26 := am0 hM;have M16 := am0 (M1.out.kept hgr (by intro h;exact N12.out (Option.some.inj h)));have BK6 := am0 (blk_grown BK.out hgr (by intro h;exact NG2.out (Option.some.inj h)));have HB6 := am0 (ev_grown HB.out hgr (by intro b hb;cases hb;exact GM2.out));clear z0;obtain ⟨z0,_⟩ := bx (vs := [.slice A0_0 l0_0.length c0_0, .slice A0_1 l0_1.length c0_1, .slice A0_2 l0_2.length c0_2, .slice (some ad) l0_3.length c0_3]) BK6.out 0 rfl;clear hM hgr)
       | ((with_reducible refine gate_dst (N := 69) rfl ?_);refine wpList_look _ rfl (.tmp 67) (.tmp 68) 98 rfl (K := 3) (e := 3) ilit (Value.int .i64) (Go.Proofs.YtalomolellcefaaDoor.Maps.int_inj IntKind.i64) KI Tryd.underlying98 0 (Tryd.zeroValue3 _) nb (n2 + k + 1) (upd (seenI t') x 1) rfl M26.out (.int .i64 x) x rfl KEYI.out ?_;rw [show upd (seenI t') x 1 x = some 1 from if_pos rfl,Option.getD_some]))
      go_roundw
      case rel => exact ⟨u2, .int .i64 x, .int .i64 x, .int .i64 ((k : Int) + 1),⟨x,k + 1,by omega,rfl,rfl,x :: t',HS,⟨M26.out.of_eq (seenI_cons t' x)⟩⟩,rfl,rfl,rfl,rfl⟩
      case measure => simp [intOf];omega
     have he : k = xs.length := by omega
     subst he;have hpure := HS.out;rw [List.drop_length] at hpure;replace HS := am0 hpure;have hnk : ¬ ((xs.length : Int) < (xs.length : Int)) := by omega
     clear hpure;go_wp2
     go_roundw
     case rel => exact ⟨i + 1,s0 :: signs,t',n2 + xs.length,by omega,by go_num,HS,M1,M2,⟨by have := HSL.out;omega⟩,BK,HB⟩
     case measure => simp [intOf];omega
   have hv2 : (cv == 0) = false := by simpa using hok
   have hso : signOk s0 = false := by
    cases hq : signOk s0
    ·rfl
    exact absurd (hcv.2 hq) hok
   rw [hso,if_pos rfl] at hpure;have HV := am0 hpure.symm;clear hpure hin hcv
   go_wp2_with (first
    | (go_at_call 44;refine (HSV.out _).mono ?_;rintro e w4 ⟨rfl,hb⟩;have HB4 := am0 (below_step HB.out hb);have M14 := am0 (M1.out.below hb);have M24 := am0 (M2.out.below hb);have BK4 := am0 (blk_below BK.out hb);have BS4 := am0 (blk_below BS.out hb);clear q0;obtain ⟨q0,_⟩ := bx (vs := [.string s0, .slice A1 xs.length c1]) BS4.out 0 rfl;clear hb)
    | ((with_reducible refine gate_dst (N := 28) rfl ?_);refine wpList_look _ rfl (.tmp 25) (.tmp 27) 56 rfl (K := 9) (e := 3) slit (Value.int .i64) (Go.Proofs.YtalomolellcefaaDoor.Maps.int_inj IntKind.i64) KL Tryd.underlying56 0 (Tryd.zeroValue3 _) mb i (seenF signs) rfl M14.out (.string s0) s0 rfl KEY.out ?_;rw [hf,Option.getD_none])
    | (refine wpList_put _ rfl (.tmp 25) (.tmp 27) (.tmp 29) 56 rfl (K := 9) (e := 3) slit slit_inj (Value.int .i64) (Go.Proofs.YtalomolellcefaaDoor.Maps.int_inj IntKind.i64) KL Tryd.underlying56 mb i hmax (seenF signs) rfl M14.out (.string s0) s0 rfl KEY.out 1 rfl ?_;intro w5 hM hgr;have M15 := am0 hM;have M25 := am0 (M24.out.kept hgr (by intro h;exact N12.out (Option.some.inj h).symm));have BS5 := am0 (blk_grown BS4.out hgr (by intro h;exact NS.out (Option.some.inj h).symm));have BK5 := am0 (blk_grown BK4.out hgr (by intro h;exact NG.out (Option.some.inj h)));have HB5 := am0 (ev_grown HB4.out hgr (by intro b hb;cases hb;exact GM.out));clear q0;obtain ⟨q0,_⟩ := bx (vs := [.string s0, .slice A1 xs.length c1]) BS5.out 0 rfl;obtain ⟨q1,_⟩ := bx (vs := [.string s0, .slice A1 xs.length c1]) BS5.out 1 rfl;obtain ⟨z0,_⟩ := bx (vs := [.slice A0_0 l0_0.length c0_0, .slice A0_1 l0_1.length c0_1, .slice A0_2 l0_2.length c0_2, .slice (some ad) l0_3.length c0_3]) BK5.out 0 rfl;clear hM hgr)
    | ((with_reducible refine gate_dst (N := 36) rfl ?_);refine wpList_look _ rfl (.tmp 33) (.tmp 35) 56 rfl (K := 9) (e := 3) slit (Value.int .i64) (Go.Proofs.YtalomolellcefaaDoor.Maps.int_inj IntKind.i64) KL Tryd.underlying56 0 (Tryd.zeroValue3 _) mb (i + 1) (upd (seenF signs) s0 1) rfl M15.out (.string s0) s0 rfl KEY.out ?_;rw [show upd (seenF signs) s0 1 s0 = some 1 from if_pos rfl,Option.getD_some]))
   all_goals
    go_ret
    refine ⟨?_,HB5.out⟩;rw [← HR.out,HV.out];rfl
  have he : i = l0_3.length := by omega
  subst he
  have hV : true = V := by
   have h1 := HS.out;rw [List.drop_length] at h1;exact h1
  subst hV;have hnum : ¬ ((l0_3.length : Int) < (l0_3.length : Int)) := by omega
  obtain ⟨z3,_⟩ := bx (vs := [.slice A0_0 l0_0.length c0_0, .slice A0_1 l0_1.length c0_1, .slice A0_2 l0_2.length c0_2, .slice A0_3 l0_3.length c0_3]) BK.out 3 rfl;go_wp2
  all_goals
   go_ret
   refine ⟨?_,HB.out⟩;rw [← HR.out];first | rfl | (simp;omega)
end Go.Proofs.YtalomolellcefaaDoor.Q
namespace Go.Proofs.YtalomolellcefaaDoor.Q
open Go.RowKit Go.Proofs.YtalomolellcefaaDoorW.PrintWords Go.Proofs.YtalomolellcefaaDoorW.PrintLast Go.Proofs.YtalomolellcefaaDoorW.PrintMore
attribute [local go_sem] max2_int min2_int max_two min_two
def elfw_span.f (k : Nat) (a0_0 : Int) (a0_1 : Int) (a0_2 : Int) (a0_3 : Int) (a0_4 : Int) : Option (Int × Int) := (rela_Field.f k a0_2).bind fun bt430 => (if a0_2 = 43 then (some (a0_1,wrap64 (a0_1 + a0_4))) else (some (a0_1,wrap64 (a0_1 + bt430.1))))
theorem elfw_span.mono : ∀ a0 a1 a2 a3 a4 k,LeO (elfw_span.f k a0 a1 a2 a3 a4) (elfw_span.f (k + 1) a0 a1 a2 a3 a4) := by
 intro a0 a1 a2 a3 a4 k;unfold elfw_span.f
 repeat' first
   | (with_reducible exact rela_Field.mono _ _)
   | (with_reducible exact LeO.refl _)
   | (with_reducible exact LeO.none _)
   | (with_reducible refine LeO.ite ?_ ?_)
   | (with_reducible refine LeO.bind ?_ (fun _ => ?_))
   | exact rela_Field.mono _ _
   | exact LeO.none _
   | refine LeO.ite ?_ ?_
   | refine LeO.bind ?_ (fun _ => ?_)
set_option maxHeartbeats 8000000 in
set_option maxRecDepth 100000 in
theorem elfw_span.calls (k : Nat) (a0_0 : Int) (a0_1 : Int) (a0_2 : Int) (a0_3 : Int) (a0_4 : Int) (r1 : Int) (r2 : Int) (w : World) (h : elfw_span.f k a0_0 a0_1 a0_2 a0_3 a0_4 = some (r1,r2)) :
  Calls Tryd.prog 65 #[.agg #[.int .i64 a0_0, .int .i64 a0_1, .int .u8 a0_2, .int .i64 a0_3, .int .i64 a0_4]] w fun e w' => e = .returned (.tuple #[.int .i64 r1, .int .i64 r2]) ∧ Below w.heap.size w w' := by
 have hu94 := Tryd.underlying94;have HB := am0 (Below.refl w.heap.size w);have H : ((rela_Field.f k a0_2).bind fun bt430 => (if a0_2 = 43 then (some (a0_1,wrap64 (a0_1 + a0_4))) else (some (a0_1,wrap64 (a0_1 + bt430.1))))) = some (r1,r2) := h;clear h;replace H := Option.bind_eq_some_iff.mp H;obtain ⟨⟨t430,t431⟩,A20,H⟩ := H;replace H : (if a0_2 = 43 then (some (a0_1,wrap64 (a0_1 + a0_4))) else (some (a0_1,wrap64 (a0_1 + t430)))) = some (r1,r2) := H;have A2 := am0 A20;clear A20
 by_cases c3 : a0_2 = 43
 ·rw [if_pos c3] at H
  have c3b0 : (a0_2 == 43) = true := beq_iff_eq.mpr c3;have c3b1 : (a0_2 != 43) = false := bne_eq_false_iff_eq.mpr c3;clear c3;simp only [Option.some.injEq,Prod.mk.injEq] at H;obtain ⟨rfl,rfl⟩ := H;go_enter Tryd.func65,Tryd.ntmps65
  go_wp2_with (first | ((with_reducible refine gate_dst (N := 1) rfl ?_);refine box_event ?hg (N := 1) ?hd (cs := #[.int .i64 a0_0, .int .i64 a0_1, .int .u8 a0_2, .int .i64 a0_3, .int .i64 a0_4]) (t := 94) ?hr ?_;(case hd => rfl);(case hg => rfl);(case hr => first | (go_simp;done) | (go_simp;rfl));intro gb429 hg w4 hbox hb;have n0_ := am0 (below_step (by repeat (first | (with_reducible first | exact HB.out | apply below_alloc | apply pw_below_drewN | apply below_drew1) | exact HB.out)) hb);have n1_ := am0 (hbox);have n2_ := am0 ((by rw [hg];exact (below_size (by repeat (first | (with_reducible first | exact HB.out | apply below_alloc | apply pw_below_drewN | apply below_drew1) | exact HB.out))) : w.heap.size ≤ gb429));have n3_ := am0 ((by rw [hg];exact (below_size (by repeat (first | (with_reducible first | exact HB.out | apply below_alloc | apply pw_below_drewN | apply below_drew1) | exact HB.out))) : w.heap.size ≤ gb429));clear HB;have HB := n0_;have BK429 := n1_;have GW429 := n2_;have GE429 := n3_;clear n0_ n1_ n2_ n3_;clear hb hbox hg;have hcz5_0 : w4.cell? ⟨gb429,0,none⟩ = some (.int .i64 a0_0) := (blk_cell BK429.out 0).trans rfl;have hcz5_1 : w4.cell? ⟨gb429,1,none⟩ = some (.int .i64 a0_1) := (blk_cell BK429.out 1).trans rfl;have hcz5_2 : w4.cell? ⟨gb429,2,none⟩ = some (.int .u8 a0_2) := (blk_cell BK429.out 2).trans rfl;have hcz5_3 : w4.cell? ⟨gb429,3,none⟩ = some (.int .i64 a0_3) := (blk_cell BK429.out 3).trans rfl;have hcz5_4 : w4.cell? ⟨gb429,4,none⟩ = some (.int .i64 a0_4) := (blk_cell BK429.out 4).trans rfl;have hfz5_0 := blk_frozen BK429.out 0;have hfz5_1 := blk_frozen BK429.out 1;have hfz5_2 := blk_frozen BK429.out 2;have hfz5_3 := blk_frozen BK429.out 3;have hfz5_4 := blk_frozen BK429.out 4) | (go_at_call 81;(with_reducible refine (rela_Field.calls k a0_2 t430 t431 _ A2.out).mono ?_);rintro e w' ⟨rfl,⟨nd,rfl⟩⟩;(try first | exact ⟨rfl,_,World.drewN_drewN _ _ _⟩ | exact ⟨rfl,_,Eq.trans (World.drewN_drewN _ _ _) (congrArg (World.drewN _) (Nat.add_assoc _ _ _))⟩)))
  repeat (go_quiet (first | ((with_reducible refine gate_dst (N := 1) rfl ?_);refine box_event ?hg (N := 1) ?hd (cs := #[.int .i64 a0_0, .int .i64 a0_1, .int .u8 a0_2, .int .i64 a0_3, .int .i64 a0_4]) (t := 94) ?hr ?_;(case hd => rfl);(case hg => rfl);(case hr => first | (go_simp;done) | (go_simp;rfl));intro gb429 hg w4 hbox hb;have n0_ := am0 (below_step (by repeat (first | (with_reducible first | exact HB.out | apply below_alloc | apply pw_below_drewN | apply below_drew1) | exact HB.out)) hb);have n1_ := am0 (hbox);have n2_ := am0 ((by rw [hg];exact (below_size (by repeat (first | (with_reducible first | exact HB.out | apply below_alloc | apply pw_below_drewN | apply below_drew1) | exact HB.out))) : w.heap.size ≤ gb429));have n3_ := am0 ((by rw [hg];exact (below_size (by repeat (first | (with_reducible first | exact HB.out | apply below_alloc | apply pw_below_drewN | apply below_drew1) | exact HB.out))) : w.heap.size ≤ gb429));clear HB;have HB := n0_;have BK429 := n1_;have GW429 := n2_;have GE429 := n3_;clear n0_ n1_ n2_ n3_;clear hb hbox hg;have hcz5_0 : w4.cell? ⟨gb429,0,none⟩ = some (.int .i64 a0_0) := (blk_cell BK429.out 0).trans rfl;have hcz5_1 : w4.cell? ⟨gb429,1,none⟩ = some (.int .i64 a0_1) := (blk_cell BK429.out 1).trans rfl;have hcz5_2 : w4.cell? ⟨gb429,2,none⟩ = some (.int .u8 a0_2) := (blk_cell BK429.out 2).trans rfl;have hcz5_3 : w4.cell? ⟨gb429,3,none⟩ = some (.int .i64 a0_3) := (blk_cell BK429.out 3).trans rfl;have hcz5_4 : w4.cell? ⟨gb429,4,none⟩ = some (.int .i64 a0_4) := (blk_cell BK429.out 4).trans rfl;have hfz5_0 := blk_frozen BK429.out 0;have hfz5_1 := blk_frozen BK429.out 1;have hfz5_2 := blk_frozen BK429.out 2;have hfz5_3 := blk_frozen BK429.out 3;have hfz5_4 := blk_frozen BK429.out 4) | (go_at_call 81;(with_reducible refine (rela_Field.calls k a0_2 t430 t431 _ A2.out).mono ?_);rintro e w' ⟨rfl,⟨nd,rfl⟩⟩;(try first | exact ⟨rfl,_,World.drewN_drewN _ _ _⟩ | exact ⟨rfl,_,Eq.trans (World.drewN_drewN _ _ _) (congrArg (World.drewN _) (Nat.add_assoc _ _ _))⟩)));try go_wp2_with (first | ((with_reducible refine gate_dst (N := 1) rfl ?_);refine box_event ?hg (N := 1) ?hd (cs := #[.int .i64 a0_0, .int .i64 a0_1, .int .u8 a0_2, .int .i64 a0_3, .int .i64 a0_4]) (t := 94) ?hr ?_;(case hd => rfl);(case hg => rfl);(case hr => first | (go_simp;done) | (go_simp;rfl));intro gb429 hg w4 hbox hb;have n0_ := am0 (below_step (by repeat (first | (with_reducible first | exact HB.out | apply below_alloc | apply pw_below_drewN | apply below_drew1) | exact HB.out)) hb);have n1_ := am0 (hbox);have n2_ := am0 ((by rw [hg];exact (below_size (by repeat (first | (with_reducible first | exact HB.out | apply below_alloc | apply pw_below_drewN | apply below_drew1) | exact HB.out))) : w.heap.size ≤ gb429));have n3_ := am0 ((by rw [hg];exact (below_size (by repeat (first | (with_reducible first | exact HB.out | apply below_alloc | apply pw_below_drewN | apply below_drew1) | exact HB.out))) : w.heap.size ≤ gb429));clear HB;have HB := n0_;have BK429 := n1_;have GW429 := n2_;have GE429 := n3_;clear n0_ n1_ n2_ n3_;clear hb hbox hg;have hcz5_0 : w4.cell? ⟨gb429,0,none⟩ = some (.int .i64 a0_0) := (blk_cell BK429.out 0).trans rfl;have hcz5_1 : w4.cell? ⟨gb429,1,none⟩ = some (.int .i64 a0_1) := (blk_cell BK429.out 1).trans rfl;have hcz5_2 : w4.cell? ⟨gb429,2,none⟩ = some (.int .u8 a0_2) := (blk_cell BK429.out 2).trans rfl;have hcz5_3 : w4.cell? ⟨gb429,3,none⟩ = some (.int .i64 a0_3) := (blk_cell BK429.out 3).trans rfl;have hcz5_4 : w4.cell? ⟨gb429,4,none⟩ = some (.int .i64 a0_4) := (blk_cell BK429.out 4).trans rfl;have hfz5_0 := blk_frozen BK429.out 0;have hfz5_1 := blk_frozen BK429.out 1;have hfz5_2 := blk_frozen BK429.out 2;have hfz5_3 := blk_frozen BK429.out 3;have hfz5_4 := blk_frozen BK429.out 4) | (go_at_call 81;(with_reducible refine (rela_Field.calls k a0_2 t430 t431 _ A2.out).mono ?_);rintro e w' ⟨rfl,⟨nd,rfl⟩⟩;(try first | exact ⟨rfl,_,World.drewN_drewN _ _ _⟩ | exact ⟨rfl,_,Eq.trans (World.drewN_drewN _ _ _) (congrArg (World.drewN _) (Nat.add_assoc _ _ _))⟩))))
  go_ret2
  exact ⟨by first | rfl | (simp [errW_none,errW_some] <;> rfl) | (simp [*,errW_none,errW_some] <;> rfl),by repeat (first | (with_reducible first | exact HB.out | apply below_alloc | apply pw_below_drewN | apply below_drew1 | refine below_set ?_ GE429.out) | exact HB.out)⟩
 rw [if_neg c3] at H;have c3b0 : (a0_2 == 43) = false := beq_eq_false_iff_ne.mpr c3;have c3b1 : (a0_2 != 43) = true := bne_iff_ne.mpr c3;simp only [Option.some.injEq,Prod.mk.injEq] at H;obtain ⟨rfl,rfl⟩ := H;go_enter Tryd.func65,Tryd.ntmps65
 go_wp2_with (first | ((with_reducible refine gate_dst (N := 1) rfl ?_);refine box_event ?hg (N := 1) ?hd (cs := #[.int .i64 a0_0, .int .i64 a0_1, .int .u8 a0_2, .int .i64 a0_3, .int .i64 a0_4]) (t := 94) ?hr ?_;(case hd => rfl);(case hg => rfl);(case hr => first | (go_simp;done) | (go_simp;rfl));intro gb429 hg w6 hbox hb;have n0_ := am0 (below_step (by repeat (first | (with_reducible first | exact HB.out | apply below_alloc | apply pw_below_drewN | apply below_drew1) | exact HB.out)) hb);have n1_ := am0 (hbox);have n2_ := am0 ((by rw [hg];exact (below_size (by repeat (first | (with_reducible first | exact HB.out | apply below_alloc | apply pw_below_drewN | apply below_drew1) | exact HB.out))) : w.heap.size ≤ gb429));have n3_ := am0 ((by rw [hg];exact (below_size (by repeat (first | (with_reducible first | exact HB.out | apply below_alloc | apply pw_below_drewN | apply below_drew1) | exact HB.out))) : w.heap.size ≤ gb429));clear HB;have HB := n0_;have BK429 := n1_;have GW429 := n2_;have GE429 := n3_;clear n0_ n1_ n2_ n3_;clear hb hbox hg;have hcz7_0 : w6.cell? ⟨gb429,0,none⟩ = some (.int .i64 a0_0) := (blk_cell BK429.out 0).trans rfl;have hcz7_1 : w6.cell? ⟨gb429,1,none⟩ = some (.int .i64 a0_1) := (blk_cell BK429.out 1).trans rfl;have hcz7_2 : w6.cell? ⟨gb429,2,none⟩ = some (.int .u8 a0_2) := (blk_cell BK429.out 2).trans rfl;have hcz7_3 : w6.cell? ⟨gb429,3,none⟩ = some (.int .i64 a0_3) := (blk_cell BK429.out 3).trans rfl;have hcz7_4 : w6.cell? ⟨gb429,4,none⟩ = some (.int .i64 a0_4) := (blk_cell BK429.out 4).trans rfl;have hfz7_0 := blk_frozen BK429.out 0;have hfz7_1 := blk_frozen BK429.out 1;have hfz7_2 := blk_frozen BK429.out 2;have hfz7_3 := blk_frozen BK429.out 3;have hfz7_4 := blk_frozen BK429.out 4) | (go_at_call 81;(with_reducible refine (rela_Field.calls k a0_2 t430 t431 _ A2.out).mono ?_);rintro e w' ⟨rfl,⟨nd,rfl⟩⟩;(try first | exact ⟨rfl,_,World.drewN_drewN _ _ _⟩ | exact ⟨rfl,_,Eq.trans (World.drewN_drewN _ _ _) (congrArg (World.drewN _) (Nat.add_assoc _ _ _))⟩)))
 repeat (go_quiet (first | ((with_reducible refine gate_dst (N := 1) rfl ?_);refine box_event ?hg (N := 1) ?hd (cs := #[.int .i64 a0_0, .int .i64 a0_1, .int .u8 a0_2, .int .i64 a0_3, .int .i64 a0_4]) (t := 94) ?hr ?_;(case hd => rfl);(case hg => rfl);(case hr => first | (go_simp;done) | (go_simp;rfl));intro gb429 hg w6 hbox hb;have n0_ := am0 (below_step (by repeat (first | (with_reducible first | exact HB.out | apply below_alloc | apply pw_below_drewN | apply below_drew1) | exact HB.out)) hb);have n1_ := am0 (hbox);have n2_ := am0 ((by rw [hg];exact (below_size (by repeat (first | (with_reducible first | exact HB.out | apply below_alloc | apply pw_below_drewN | apply below_drew1) | exact HB.out))) : w.heap.size ≤ gb429));have n3_ := am0 ((by rw [hg];exact (below_size (by repeat (first | (with_reducible first | exact HB.out | apply below_alloc | apply pw_below_drewN | apply below_drew1) | exact HB.out))) : w.heap.size ≤ gb429));clear HB;have HB := n0_;have BK429 := n1_;have GW429 := n2_;have GE429 := n3_;clear n0_ n1_ n2_ n3_;clear hb hbox hg;have hcz7_0 : w6.cell? ⟨gb429,0,none⟩ = some (.int .i64 a0_0) := (blk_cell BK429.out 0).trans rfl;have hcz7_1 : w6.cell? ⟨gb429,1,none⟩ = some (.int .i64 a0_1) := (blk_cell BK429.out 1).trans rfl;have hcz7_2 : w6.cell? ⟨gb429,2,none⟩ = some (.int .u8 a0_2) := (blk_cell BK429.out 2).trans rfl;have hcz7_3 : w6.cell? ⟨gb429,3,none⟩ = some (.int .i64 a0_3) := (blk_cell BK429.out 3).trans rfl;have hcz7_4 : w6.cell? ⟨gb429,4,none⟩ = some (.int .i64 a0_4) := (blk_cell BK429.out 4).trans rfl;have hfz7_0 := blk_frozen BK429.out 0;have hfz7_1 := blk_frozen BK429.out 1;have hfz7_2 := blk_frozen BK429.out 2;have hfz7_3 := blk_frozen BK429.out 3;have hfz7_4 := blk_frozen BK429.out 4) | (go_at_call 81;(with_reducible refine (rela_Field.calls k a0_2 t430 t431 _ A2.out).mono ?_);rintro e w' ⟨rfl,⟨nd,rfl⟩⟩;(try first | exact ⟨rfl,_,World.drewN_drewN _ _ _⟩ | exact ⟨rfl,_,Eq.trans (World.drewN_drewN _ _ _) (congrArg (World.drewN _) (Nat.add_assoc _ _ _))⟩)));try go_wp2_with (first | ((with_reducible refine gate_dst (N := 1) rfl ?_);refine box_event ?hg (N := 1) ?hd (cs := #[.int .i64 a0_0, .int .i64 a0_1, .int .u8 a0_2, .int .i64 a0_3, .int .i64 a0_4]) (t := 94) ?hr ?_;(case hd => rfl);(case hg => rfl);(case hr => first | (go_simp;done) | (go_simp;rfl));intro gb429 hg w6 hbox hb;have n0_ := am0 (below_step (by repeat (first | (with_reducible first | exact HB.out | apply below_alloc | apply pw_below_drewN | apply below_drew1) | exact HB.out)) hb);have n1_ := am0 (hbox);have n2_ := am0 ((by rw [hg];exact (below_size (by repeat (first | (with_reducible first | exact HB.out | apply below_alloc | apply pw_below_drewN | apply below_drew1) | exact HB.out))) : w.heap.size ≤ gb429));have n3_ := am0 ((by rw [hg];exact (below_size (by repeat (first | (with_reducible first | exact HB.out | apply below_alloc | apply pw_below_drewN | apply below_drew1) | exact HB.out))) : w.heap.size ≤ gb429));clear HB;have HB := n0_;have BK429 := n1_;have GW429 := n2_;have GE429 := n3_;clear n0_ n1_ n2_ n3_;clear hb hbox hg;have hcz7_0 : w6.cell? ⟨gb429,0,none⟩ = some (.int .i64 a0_0) := (blk_cell BK429.out 0).trans rfl;have hcz7_1 : w6.cell? ⟨gb429,1,none⟩ = some (.int .i64 a0_1) := (blk_cell BK429.out 1).trans rfl;have hcz7_2 : w6.cell? ⟨gb429,2,none⟩ = some (.int .u8 a0_2) := (blk_cell BK429.out 2).trans rfl;have hcz7_3 : w6.cell? ⟨gb429,3,none⟩ = some (.int .i64 a0_3) := (blk_cell BK429.out 3).trans rfl;have hcz7_4 : w6.cell? ⟨gb429,4,none⟩ = some (.int .i64 a0_4) := (blk_cell BK429.out 4).trans rfl;have hfz7_0 := blk_frozen BK429.out 0;have hfz7_1 := blk_frozen BK429.out 1;have hfz7_2 := blk_frozen BK429.out 2;have hfz7_3 := blk_frozen BK429.out 3;have hfz7_4 := blk_frozen BK429.out 4) | (go_at_call 81;(with_reducible refine (rela_Field.calls k a0_2 t430 t431 _ A2.out).mono ?_);rintro e w' ⟨rfl,⟨nd,rfl⟩⟩;(try first | exact ⟨rfl,_,World.drewN_drewN _ _ _⟩ | exact ⟨rfl,_,Eq.trans (World.drewN_drewN _ _ _) (congrArg (World.drewN _) (Nat.add_assoc _ _ _))⟩))))
 go_ret2
 exact ⟨by first | rfl | (simp [errW_none,errW_some] <;> rfl) | (simp [*,errW_none,errW_some] <;> rfl),by repeat (first | (with_reducible first | exact HB.out | apply below_alloc | apply pw_below_drewN | apply below_drew1 | refine below_set ?_ GE429.out) | exact HB.out)⟩
def elfw_sums.f (a0_0 : Int) (a0_1 : Int) (a0_2 : Int) (a0_3 : Int) (a0_4 : Int) (a1_0 : Int) (a1_1 : Int) (a1_2 : Int) (a1_3 : Int) (a1_4 : Int) : Option (Bool) := if (mn a0_2 a1_2) ≥ 33 then (if (mn a0_2 a1_2) ≤ 36 then (some ((mx a0_2 a1_2) == (((((mn a0_2 a1_2) + 37) % 256) - 33) % 256))) else (some false)) else (some false)
set_option maxHeartbeats 8000000 in
set_option maxRecDepth 100000 in
theorem elfw_sums.calls (a0_0 : Int) (a0_1 : Int) (a0_2 : Int) (a0_3 : Int) (a0_4 : Int) (a1_0 : Int) (a1_1 : Int) (a1_2 : Int) (a1_3 : Int) (a1_4 : Int) (r : Bool) (w : World) (h : elfw_sums.f a0_0 a0_1 a0_2 a0_3 a0_4 a1_0 a1_1 a1_2 a1_3 a1_4 = some r) :
  Calls Tryd.prog 66 #[.agg #[.int .i64 a0_0, .int .i64 a0_1, .int .u8 a0_2, .int .i64 a0_3, .int .i64 a0_4], .agg #[.int .i64 a1_0, .int .i64 a1_1, .int .u8 a1_2, .int .i64 a1_3, .int .i64 a1_4]] w fun e w' => e = .returned (.bool r) ∧ Below w.heap.size w w' := by
 have hu94 := Tryd.underlying94;have HB := am0 (Below.refl w.heap.size w);have H : (if (mn a0_2 a1_2) ≥ 33 then (if (mn a0_2 a1_2) ≤ 36 then (some ((mx a0_2 a1_2) == (((((mn a0_2 a1_2) + 37) % 256) - 33) % 256))) else (some false)) else (some false)) = some r := h;clear h;obtain ⟨ji3,hji3⟩ : ∃ j_ : Int,(mn a0_2 a1_2) = j_ := ⟨_,rfl⟩;replace H : (if (ji3) ≥ 33 then (if (ji3) ≤ 36 then (some ((mx a0_2 a1_2) == (((((ji3) + 37) % 256) - 33) % 256))) else (some false)) else (some false)) = some r := by first | (rw [hji3] at H;exact H) | (simp only [hji3] at H ⊢;exact H)
 have hji3_ : (if a1_2 < a0_2 then a1_2 else a0_2) = ji3 := hji3;obtain ⟨ji4,hji4⟩ : ∃ j_ : Int,(mx a0_2 a1_2) = j_ := ⟨_,rfl⟩;replace H : (if (ji3) ≥ 33 then (if (ji3) ≤ 36 then (some ((ji4) == (((((ji3) + 37) % 256) - 33) % 256))) else (some false)) else (some false)) = some r := by first | (rw [hji4] at H;exact H) | (simp only [hji4] at H ⊢;exact H)
 have hji4_ : (if a0_2 < a1_2 then a1_2 else a0_2) = ji4 := hji4
 by_cases c5 : (ji3) ≥ 33
 ·rw [if_pos c5] at H
  have c5b0 : decide (33 ≤ (ji3)) = true := decide_eq_true c5;clear c5
  by_cases c6 : (ji3) ≤ 36
  ·rw [if_pos c6] at H
   have c6b0 : decide ((ji3) ≤ 36) = true := decide_eq_true c6;clear c6;obtain rfl := Option.some.inj H;go_enter Tryd.func66,Tryd.ntmps66
   go_wp2_with (first | ((with_reducible refine gate_dst (N := 2) rfl ?_);refine box_event ?hg (N := 2) ?hd (cs := #[.int .i64 a0_0, .int .i64 a0_1, .int .u8 a0_2, .int .i64 a0_3, .int .i64 a0_4]) (t := 94) ?hr ?_;(case hd => rfl);(case hg => rfl);(case hr => first | (go_simp;done) | (go_simp;rfl));intro gb432 hg w7 hbox hb;have n0_ := am0 (below_step (by repeat (first | (with_reducible first | exact HB.out | apply below_alloc | apply pw_below_drewN | apply below_drew1) | exact HB.out)) hb);have n1_ := am0 (hbox);have n2_ := am0 ((by rw [hg];exact (below_size (by repeat (first | (with_reducible first | exact HB.out | apply below_alloc | apply pw_below_drewN | apply below_drew1) | exact HB.out))) : w.heap.size ≤ gb432));have n3_ := am0 ((by rw [hg];exact (below_size (by repeat (first | (with_reducible first | exact HB.out | apply below_alloc | apply pw_below_drewN | apply below_drew1) | exact HB.out))) : w.heap.size ≤ gb432));clear HB;have HB := n0_;have BK432 := n1_;have GW432 := n2_;have GE432 := n3_;clear n0_ n1_ n2_ n3_;clear hb hbox hg) | ((with_reducible refine gate_dst (N := 3) rfl ?_);refine box_event ?hg (N := 3) ?hd (cs := #[.int .i64 a1_0, .int .i64 a1_1, .int .u8 a1_2, .int .i64 a1_3, .int .i64 a1_4]) (t := 94) ?hr ?_;(case hd => rfl);(case hg => rfl);(case hr => first | (go_simp;done) | (go_simp;rfl));intro gb433 hg w8 hbox hb;have n0_ := am0 (blk_below (g := gb432) (o := .cells #[.int .i64 a0_0, .int .i64 a0_1, .int .u8 a0_2, .int .i64 a0_3, .int .i64 a0_4] 94 (0,0)) (by (with_reducible repeat (first | refine blk_drewN ?_ _ | refine blk_drew ?_ | refine blk_alloc ?_ _));exact BK432.out) hb);have n1_ := am0 (below_step (by repeat (first | (with_reducible first | exact HB.out | apply below_alloc | apply pw_below_drewN | apply below_drew1 | refine below_set ?_ GE432.out) | exact HB.out)) hb);have n2_ := am0 (hbox);have n3_ := am0 ((by rw [hg];exact (below_size (by repeat (first | (with_reducible first | exact HB.out | apply below_alloc | apply pw_below_drewN | apply below_drew1 | refine below_set ?_ GE432.out) | exact HB.out))) : w.heap.size ≤ gb433));have n4_ := am0 ((by rw [hg];exact (below_size (by repeat (first | (with_reducible first | exact HB.out | apply below_alloc | apply pw_below_drewN | apply below_drew1 | refine below_set ?_ GE432.out) | exact HB.out))) : w.heap.size ≤ gb433));have n5_ := am0 ((by rw [hg];exact Nat.ne_of_lt (blk_lt (g := gb432) (o := .cells #[.int .i64 a0_0, .int .i64 a0_1, .int .u8 a0_2, .int .i64 a0_3, .int .i64 a0_4] 94 (0,0)) (by (with_reducible repeat (first | refine blk_drewN ?_ _ | refine blk_drew ?_ | refine blk_alloc ?_ _));exact BK432.out)) : gb432 ≠ gb433));have n6_ := am0 ((by rw [hg];exact Nat.ne_of_gt (blk_lt (g := gb432) (o := .cells #[.int .i64 a0_0, .int .i64 a0_1, .int .u8 a0_2, .int .i64 a0_3, .int .i64 a0_4] 94 (0,0)) (by (with_reducible repeat (first | refine blk_drewN ?_ _ | refine blk_drew ?_ | refine blk_alloc ?_ _));exact BK432.out)) : gb433 ≠ gb432));clear BK432;clear HB;have BK432 := n0_;have HB := n1_;have BK433 := n2_;have GW433 := n3_;have GE433 := n4_;have NB432_433 := n5_;have NB433_432 := n6_;clear n0_ n1_ n2_ n3_ n4_ n5_ n6_;clear hb hbox hg;have hnb9 := NB432_433.out;have hnc9 := NB433_432.out;have hcz10_0 : w8.cell? ⟨gb432,0,none⟩ = some (.int .i64 a0_0) := (blk_cell BK432.out 0).trans rfl;have hcz10_1 : w8.cell? ⟨gb432,1,none⟩ = some (.int .i64 a0_1) := (blk_cell BK432.out 1).trans rfl;have hcz10_2 : w8.cell? ⟨gb432,2,none⟩ = some (.int .u8 a0_2) := (blk_cell BK432.out 2).trans rfl;have hcz10_3 : w8.cell? ⟨gb432,3,none⟩ = some (.int .i64 a0_3) := (blk_cell BK432.out 3).trans rfl;have hcz10_4 : w8.cell? ⟨gb432,4,none⟩ = some (.int .i64 a0_4) := (blk_cell BK432.out 4).trans rfl;have hfz10_0 := blk_frozen BK432.out 0;have hfz10_1 := blk_frozen BK432.out 1;have hfz10_2 := blk_frozen BK432.out 2;have hfz10_3 := blk_frozen BK432.out 3;have hfz10_4 := blk_frozen BK432.out 4;have hcz11_0 : w8.cell? ⟨gb433,0,none⟩ = some (.int .i64 a1_0) := (blk_cell BK433.out 0).trans rfl;have hcz11_1 : w8.cell? ⟨gb433,1,none⟩ = some (.int .i64 a1_1) := (blk_cell BK433.out 1).trans rfl;have hcz11_2 : w8.cell? ⟨gb433,2,none⟩ = some (.int .u8 a1_2) := (blk_cell BK433.out 2).trans rfl;have hcz11_3 : w8.cell? ⟨gb433,3,none⟩ = some (.int .i64 a1_3) := (blk_cell BK433.out 3).trans rfl;have hcz11_4 : w8.cell? ⟨gb433,4,none⟩ = some (.int .i64 a1_4) := (blk_cell BK433.out 4).trans rfl;have hfz11_0 := blk_frozen BK433.out 0;have hfz11_1 := blk_frozen BK433.out 1;have hfz11_2 := blk_frozen BK433.out 2;have hfz11_3 := blk_frozen BK433.out 3;have hfz11_4 := blk_frozen BK433.out 4))
   repeat (go_quiet (first | ((with_reducible refine gate_dst (N := 2) rfl ?_);refine box_event ?hg (N := 2) ?hd (cs := #[.int .i64 a0_0, .int .i64 a0_1, .int .u8 a0_2, .int .i64 a0_3, .int .i64 a0_4]) (t := 94) ?hr ?_;(case hd => rfl);(case hg => rfl);(case hr => first | (go_simp;done) | (go_simp;rfl));intro gb432 hg w7 hbox hb;have n0_ := am0 (below_step (by repeat (first | (with_reducible first | exact HB.out | apply below_alloc | apply pw_below_drewN | apply below_drew1) | exact HB.out)) hb);have n1_ := am0 (hbox);have n2_ := am0 ((by rw [hg];exact (below_size (by repeat (first | (with_reducible first | exact HB.out | apply below_alloc | apply pw_below_drewN | apply below_drew1) | exact HB.out))) : w.heap.size ≤ gb432));have n3_ := am0 ((by rw [hg];exact (below_size (by repeat (first | (with_reducible first | exact HB.out | apply below_alloc | apply pw_below_drewN | apply below_drew1) | exact HB.out))) : w.heap.size ≤ gb432));clear HB;have HB := n0_;have BK432 := n1_;have GW432 := n2_;have GE432 := n3_;clear n0_ n1_ n2_ n3_;clear hb hbox hg) | ((with_reducible refine gate_dst (N := 3) rfl ?_);refine box_event ?hg (N := 3) ?hd (cs := #[.int .i64 a1_0, .int .i64 a1_1, .int .u8 a1_2, .int .i64 a1_3, .int .i64 a1_4]) (t := 94) ?hr ?_;(case hd => rfl);(case hg => rfl);(case hr => first | (go_simp;done) | (go_simp;rfl));intro gb433 hg w8 hbox hb;have n0_ := am0 (blk_below (g := gb432) (o := .cells #[.int .i64 a0_0, .int .i64 a0_1, .int .u8 a0_2, .int .i64 a0_3, .int .i64 a0_4] 94 (0,0)) (by (with_reducible repeat (first | refine blk_drewN ?_ _ | refine blk_drew ?_ | refine blk_alloc ?_ _));exact BK432.out) hb);have n1_ := am0 (below_step (by repeat (first | (with_reducible first | exact HB.out | apply below_alloc | apply pw_below_drewN | apply below_drew1 | refine below_set ?_ GE432.out) | exact HB.out)) hb);have n2_ := am0 (hbox);have n3_ := am0 ((by rw [hg];exact (below_size (by repeat (first | (with_reducible first | exact HB.out | apply below_alloc | apply pw_below_drewN | apply below_drew1 | refine below_set ?_ GE432.out) | exact HB.out))) : w.heap.size ≤ gb433));have n4_ := am0 ((by rw [hg];exact (below_size (by repeat (first | (with_reducible first | exact HB.out | apply below_alloc | apply pw_below_drewN | apply below_drew1 | refine below_set ?_ GE432.out) | exact HB.out))) : w.heap.size ≤ gb433));have n5_ := am0 ((by rw [hg];exact Nat.ne_of_lt (blk_lt (g := gb432) (o := .cells #[.int .i64 a0_0, .int .i64 a0_1, .int .u8 a0_2, .int .i64 a0_3, .int .i64 a0_4] 94 (0,0)) (by (with_reducible repeat (first | refine blk_drewN ?_ _ | refine blk_drew ?_ | refine blk_alloc ?_ _));exact BK432.out)) : gb432 ≠ gb433));have n6_ := am0 ((by rw [hg];exact Nat.ne_of_gt (blk_lt (g := gb432) (o := .cells #[.int .i64 a0_0, .int .i64 a0_1, .int .u8 a0_2, .int .i64 a0_3, .int .i64 a0_4] 94 (0,0)) (by (with_reducible repeat (first | refine blk_drewN ?_ _ | refine blk_drew ?_ | refine blk_alloc ?_ _));exact BK432.out)) : gb433 ≠ gb432));clear BK432;clear HB;have BK432 := n0_;have HB := n1_;have BK433 := n2_;have GW433 := n3_;have GE433 := n4_;have NB432_433 := n5_;have NB433_432 := n6_;clear n0_ n1_ n2_ n3_ n4_ n5_ n6_;clear hb hbox hg;have hnb9 := NB432_433.out;have hnc9 := NB433_432.out;have hcz10_0 : w8.cell? ⟨gb432,0,none⟩ = some (.int .i64 a0_0) := (blk_cell BK432.out 0).trans rfl;have hcz10_1 : w8.cell? ⟨gb432,1,none⟩ = some (.int .i64 a0_1) := (blk_cell BK432.out 1).trans rfl;have hcz10_2 : w8.cell? ⟨gb432,2,none⟩ = some (.int .u8 a0_2) := (blk_cell BK432.out 2).trans rfl;have hcz10_3 : w8.cell? ⟨gb432,3,none⟩ = some (.int .i64 a0_3) := (blk_cell BK432.out 3).trans rfl;have hcz10_4 : w8.cell? ⟨gb432,4,none⟩ = some (.int .i64 a0_4) := (blk_cell BK432.out 4).trans rfl;have hfz10_0 := blk_frozen BK432.out 0;have hfz10_1 := blk_frozen BK432.out 1;have hfz10_2 := blk_frozen BK432.out 2;have hfz10_3 := blk_frozen BK432.out 3;have hfz10_4 := blk_frozen BK432.out 4;have hcz11_0 : w8.cell? ⟨gb433,0,none⟩ = some (.int .i64 a1_0) := (blk_cell BK433.out 0).trans rfl;have hcz11_1 : w8.cell? ⟨gb433,1,none⟩ = some (.int .i64 a1_1) := (blk_cell BK433.out 1).trans rfl;have hcz11_2 : w8.cell? ⟨gb433,2,none⟩ = some (.int .u8 a1_2) := (blk_cell BK433.out 2).trans rfl;have hcz11_3 : w8.cell? ⟨gb433,3,none⟩ = some (.int .i64 a1_3) := (blk_cell BK433.out 3).trans rfl;have hcz11_4 : w8.cell? ⟨gb433,4,none⟩ = some (.int .i64 a1_4) := (blk_cell BK433.out 4).trans rfl;have hfz11_0 := blk_frozen BK433.out 0;have hfz11_1 := blk_frozen BK433.out 1;have hfz11_2 := blk_frozen BK433.out 2;have hfz11_3 := blk_frozen BK433.out 3;have hfz11_4 := blk_frozen BK433.out 4));try go_wp2_with (first | ((with_reducible refine gate_dst (N := 2) rfl ?_);refine box_event ?hg (N := 2) ?hd (cs := #[.int .i64 a0_0, .int .i64 a0_1, .int .u8 a0_2, .int .i64 a0_3, .int .i64 a0_4]) (t := 94) ?hr ?_;(case hd => rfl);(case hg => rfl);(case hr => first | (go_simp;done) | (go_simp;rfl));intro gb432 hg w7 hbox hb;have n0_ := am0 (below_step (by repeat (first | (with_reducible first | exact HB.out | apply below_alloc | apply pw_below_drewN | apply below_drew1) | exact HB.out)) hb);have n1_ := am0 (hbox);have n2_ := am0 ((by rw [hg];exact (below_size (by repeat (first | (with_reducible first | exact HB.out | apply below_alloc | apply pw_below_drewN | apply below_drew1) | exact HB.out))) : w.heap.size ≤ gb432));have n3_ := am0 ((by rw [hg];exact (below_size (by repeat (first | (with_reducible first | exact HB.out | apply below_alloc | apply pw_below_drewN | apply below_drew1) | exact HB.out))) : w.heap.size ≤ gb432));clear HB;have HB := n0_;have BK432 := n1_;have GW432 := n2_;have GE432 := n3_;clear n0_ n1_ n2_ n3_;clear hb hbox hg) | ((with_reducible refine gate_dst (N := 3) rfl ?_);refine box_event ?hg (N := 3) ?hd (cs := #[.int .i64 a1_0, .int .i64 a1_1, .int .u8 a1_2, .int .i64 a1_3, .int .i64 a1_4]) (t := 94) ?hr ?_;(case hd => rfl);(case hg => rfl);(case hr => first | (go_simp;done) | (go_simp;rfl));intro gb433 hg w8 hbox hb;have n0_ := am0 (blk_below (g := gb432) (o := .cells #[.int .i64 a0_0, .int .i64 a0_1, .int .u8 a0_2, .int .i64 a0_3, .int .i64 a0_4] 94 (0,0)) (by (with_reducible repeat (first | refine blk_drewN ?_ _ | refine blk_drew ?_ | refine blk_alloc ?_ _));exact BK432.out) hb);have n1_ := am0 (below_step (by repeat (first | (with_reducible first | exact HB.out | apply below_alloc | apply pw_below_drewN | apply below_drew1 | refine below_set ?_ GE432.out) | exact HB.out)) hb);have n2_ := am0 (hbox);have n3_ := am0 ((by rw [hg];exact (below_size (by repeat (first | (with_reducible first | exact HB.out | apply below_alloc | apply pw_below_drewN | apply below_drew1 | refine below_set ?_ GE432.out) | exact HB.out))) : w.heap.size ≤ gb433));have n4_ := am0 ((by rw [hg];exact (below_size (by repeat (first | (with_reducible first | exact HB.out | apply below_alloc | apply pw_below_drewN | apply below_drew1 | refine below_set ?_ GE432.out) | exact HB.out))) : w.heap.size ≤ gb433));have n5_ := am0 ((by rw [hg];exact Nat.ne_of_lt (blk_lt (g := gb432) (o := .cells #[.int .i64 a0_0, .int .i64 a0_1, .int .u8 a0_2, .int .i64 a0_3, .int .i64 a0_4] 94 (0,0)) (by (with_reducible repeat (first | refine blk_drewN ?_ _ | refine blk_drew ?_ | refine blk_alloc ?_ _));exact BK432.out)) : gb432 ≠ gb433));have n6_ := am0 ((by rw [hg];exact Nat.ne_of_gt (blk_lt (g := gb432) (o := .cells #[.int .i64 a0_0, .int .i64 a0_1, .int .u8 a0_2, .int .i64 a0_3, .int .i64 a0_4] 94 (0,0)) (by (with_reducible repeat (first | refine blk_drewN ?_ _ | refine blk_drew ?_ | refine blk_alloc ?_ _));exact BK432.out)) : gb433 ≠ gb432));clear BK432;clear HB;have BK432 := n0_;have HB := n1_;have BK433 := n2_;have GW433 := n3_;have GE433 := n4_;have NB432_433 := n5_;have NB433_432 := n6_;clear n0_ n1_ n2_ n3_ n4_ n5_ n6_;clear hb hbox hg;have hnb9 := NB432_433.out;have hnc9 := NB433_432.out;have hcz10_0 : w8.cell? ⟨gb432,0,none⟩ = some (.int .i64 a0_0) := (blk_cell BK432.out 0).trans rfl;have hcz10_1 : w8.cell? ⟨gb432,1,none⟩ = some (.int .i64 a0_1) := (blk_cell BK432.out 1).trans rfl;have hcz10_2 : w8.cell? ⟨gb432,2,none⟩ = some (.int .u8 a0_2) := (blk_cell BK432.out 2).trans rfl;have hcz10_3 : w8.cell? ⟨gb432,3,none⟩ = some (.int .i64 a0_3) := (blk_cell BK432.out 3).trans rfl;have hcz10_4 : w8.cell? ⟨gb432,4,none⟩ = some (.int .i64 a0_4) := (blk_cell BK432.out 4).trans rfl;have hfz10_0 := blk_frozen BK432.out 0;have hfz10_1 := blk_frozen BK432.out 1;have hfz10_2 := blk_frozen BK432.out 2;have hfz10_3 := blk_frozen BK432.out 3;have hfz10_4 := blk_frozen BK432.out 4;have hcz11_0 : w8.cell? ⟨gb433,0,none⟩ = some (.int .i64 a1_0) := (blk_cell BK433.out 0).trans rfl;have hcz11_1 : w8.cell? ⟨gb433,1,none⟩ = some (.int .i64 a1_1) := (blk_cell BK433.out 1).trans rfl;have hcz11_2 : w8.cell? ⟨gb433,2,none⟩ = some (.int .u8 a1_2) := (blk_cell BK433.out 2).trans rfl;have hcz11_3 : w8.cell? ⟨gb433,3,none⟩ = some (.int .i64 a1_3) := (blk_cell BK433.out 3).trans rfl;have hcz11_4 : w8.cell? ⟨gb433,4,none⟩ = some (.int .i64 a1_4) := (blk_cell BK433.out 4).trans rfl;have hfz11_0 := blk_frozen BK433.out 0;have hfz11_1 := blk_frozen BK433.out 1;have hfz11_2 := blk_frozen BK433.out 2;have hfz11_3 := blk_frozen BK433.out 3;have hfz11_4 := blk_frozen BK433.out 4)))
   go_ret
   exact ⟨by first | rfl | (simp [errW_none,errW_some] <;> rfl) | (simp only [← hji3, ← hji4];first | rfl | (simp [errW_none,errW_some] <;> rfl)) | (simp [*,errW_none,errW_some] <;> rfl),by repeat (first | (with_reducible first | exact HB.out | apply below_alloc | apply pw_below_drewN | apply below_drew1 | refine below_set ?_ GE432.out | refine below_set ?_ GE433.out) | exact HB.out)⟩
  rw [if_neg c6] at H;have c6b0 : decide ((ji3) ≤ 36) = false := decide_eq_false c6;clear c6;obtain rfl := Option.some.inj H;go_enter Tryd.func66,Tryd.ntmps66
  go_wp2_with (first | ((with_reducible refine gate_dst (N := 2) rfl ?_);refine box_event ?hg (N := 2) ?hd (cs := #[.int .i64 a0_0, .int .i64 a0_1, .int .u8 a0_2, .int .i64 a0_3, .int .i64 a0_4]) (t := 94) ?hr ?_;(case hd => rfl);(case hg => rfl);(case hr => first | (go_simp;done) | (go_simp;rfl));intro gb432 hg w12 hbox hb;have n0_ := am0 (below_step (by repeat (first | (with_reducible first | exact HB.out | apply below_alloc | apply pw_below_drewN | apply below_drew1) | exact HB.out)) hb);have n1_ := am0 (hbox);have n2_ := am0 ((by rw [hg];exact (below_size (by repeat (first | (with_reducible first | exact HB.out | apply below_alloc | apply pw_below_drewN | apply below_drew1) | exact HB.out))) : w.heap.size ≤ gb432));have n3_ := am0 ((by rw [hg];exact (below_size (by repeat (first | (with_reducible first | exact HB.out | apply below_alloc | apply pw_below_drewN | apply below_drew1) | exact HB.out))) : w.heap.size ≤ gb432));clear HB;have HB := n0_;have BK432 := n1_;have GW432 := n2_;have GE432 := n3_;clear n0_ n1_ n2_ n3_;clear hb hbox hg) | ((with_reducible refine gate_dst (N := 3) rfl ?_);refine box_event ?hg (N := 3) ?hd (cs := #[.int .i64 a1_0, .int .i64 a1_1, .int .u8 a1_2, .int .i64 a1_3, .int .i64 a1_4]) (t := 94) ?hr ?_;(case hd => rfl);(case hg => rfl);(case hr => first | (go_simp;done) | (go_simp;rfl));intro gb433 hg w13 hbox hb;have n0_ := am0 (blk_below (g := gb432) (o := .cells #[.int .i64 a0_0, .int .i64 a0_1, .int .u8 a0_2, .int .i64 a0_3, .int .i64 a0_4] 94 (0,0)) (by (with_reducible repeat (first | refine blk_drewN ?_ _ | refine blk_drew ?_ | refine blk_alloc ?_ _));exact BK432.out) hb);have n1_ := am0 (below_step (by repeat (first | (with_reducible first | exact HB.out | apply below_alloc | apply pw_below_drewN | apply below_drew1 | refine below_set ?_ GE432.out) | exact HB.out)) hb);have n2_ := am0 (hbox);have n3_ := am0 ((by rw [hg];exact (below_size (by repeat (first | (with_reducible first | exact HB.out | apply below_alloc | apply pw_below_drewN | apply below_drew1 | refine below_set ?_ GE432.out) | exact HB.out))) : w.heap.size ≤ gb433));have n4_ := am0 ((by rw [hg];exact (below_size (by repeat (first | (with_reducible first | exact HB.out | apply below_alloc | apply pw_below_drewN | apply below_drew1 | refine below_set ?_ GE432.out) | exact HB.out))) : w.heap.size ≤ gb433));have n5_ := am0 ((by rw [hg];exact Nat.ne_of_lt (blk_lt (g := gb432) (o := .cells #[.int .i64 a0_0, .int .i64 a0_1, .int .u8 a0_2, .int .i64 a0_3, .int .i64 a0_4] 94 (0,0)) (by (with_reducible repeat (first | refine blk_drewN ?_ _ | refine blk_drew ?_ | refine blk_alloc ?_ _));exact BK432.out)) : gb432 ≠ gb433));have n6_ := am0 ((by rw [hg];exact Nat.ne_of_gt (blk_lt (g := gb432) (o := .cells #[.int .i64 a0_0, .int .i64 a0_1, .int .u8 a0_2, .int .i64 a0_3, .int .i64 a0_4] 94 (0,0)) (by (with_reducible repeat (first | refine blk_drewN ?_ _ | refine blk_drew ?_ | refine blk_alloc ?_ _));exact BK432.out)) : gb433 ≠ gb432));clear BK432;clear HB;have BK432 := n0_;have HB := n1_;have BK433 := n2_;have GW433 := n3_;have GE433 := n4_;have NB432_433 := n5_;have NB433_432 := n6_;clear n0_ n1_ n2_ n3_ n4_ n5_ n6_;clear hb hbox hg;have hnb14 := NB432_433.out;have hnc14 := NB433_432.out;have hcz15_0 : w13.cell? ⟨gb432,0,none⟩ = some (.int .i64 a0_0) := (blk_cell BK432.out 0).trans rfl;have hcz15_1 : w13.cell? ⟨gb432,1,none⟩ = some (.int .i64 a0_1) := (blk_cell BK432.out 1).trans rfl;have hcz15_2 : w13.cell? ⟨gb432,2,none⟩ = some (.int .u8 a0_2) := (blk_cell BK432.out 2).trans rfl;have hcz15_3 : w13.cell? ⟨gb432,3,none⟩ = some (.int .i64 a0_3) := (blk_cell BK432.out 3).trans rfl;have hcz15_4 : w13.cell? ⟨gb432,4,none⟩ = some (.int .i64 a0_4) := (blk_cell BK432.out 4).trans rfl;have hfz15_0 := blk_frozen BK432.out 0;have hfz15_1 := blk_frozen BK432.out 1;have hfz15_2 := blk_frozen BK432.out 2;have hfz15_3 := blk_frozen BK432.out 3;have hfz15_4 := blk_frozen BK432.out 4;have hcz16_0 : w13.cell? ⟨gb433,0,none⟩ = some (.int .i64 a1_0) := (blk_cell BK433.out 0).trans rfl;have hcz16_1 : w13.cell? ⟨gb433,1,none⟩ = some (.int .i64 a1_1) := (blk_cell BK433.out 1).trans rfl;have hcz16_2 : w13.cell? ⟨gb433,2,none⟩ = some (.int .u8 a1_2) := (blk_cell BK433.out 2).trans rfl;have hcz16_3 : w13.cell? ⟨gb433,3,none⟩ = some (.int .i64 a1_3) := (blk_cell BK433.out 3).trans rfl;have hcz16_4 : w13.cell? ⟨gb433,4,none⟩ = some (.int .i64 a1_4) := (blk_cell BK433.out 4).trans rfl;have hfz16_0 := blk_frozen BK433.out 0;have hfz16_1 := blk_frozen BK433.out 1;have hfz16_2 := blk_frozen BK433.out 2;have hfz16_3 := blk_frozen BK433.out 3;have hfz16_4 := blk_frozen BK433.out 4))
  repeat (go_quiet (first | ((with_reducible refine gate_dst (N := 2) rfl ?_);refine box_event ?hg (N := 2) ?hd (cs := #[.int .i64 a0_0, .int .i64 a0_1, .int .u8 a0_2, .int .i64 a0_3, .int .i64 a0_4]) (t := 94) ?hr ?_;(case hd => rfl);(case hg => rfl);(case hr => first | (go_simp;done) | (go_simp;rfl));intro gb432 hg w12 hbox hb;have n0_ := am0 (below_step (by repeat (first | (with_reducible first | exact HB.out | apply below_alloc | apply pw_below_drewN | apply below_drew1) | exact HB.out)) hb);have n1_ := am0 (hbox);have n2_ := am0 ((by rw [hg];exact (below_size (by repeat (first | (with_reducible first | exact HB.out | apply below_alloc | apply pw_below_drewN | apply below_drew1) | exact HB.out))) : w.heap.size ≤ gb432));have n3_ := am0 ((by rw [hg];exact (below_size (by repeat (first | (with_reducible first | exact HB.out | apply below_alloc | apply pw_below_drewN | apply below_drew1) | exact HB.out))) : w.heap.size ≤ gb432));clear HB;have HB := n0_;have BK432 := n1_;have GW432 := n2_;have GE432 := n3_;clear n0_ n1_ n2_ n3_;clear hb hbox hg) | ((with_reducible refine gate_dst (N := 3) rfl ?_);refine box_event ?hg (N := 3) ?hd (cs := #[.int .i64 a1_0, .int .i64 a1_1, .int .u8 a1_2, .int .i64 a1_3, .int .i64 a1_4]) (t := 94) ?hr ?_;(case hd => rfl);(case hg => rfl);(case hr => first | (go_simp;done) | (go_simp;rfl));intro gb433 hg w13 hbox hb;have n0_ := am0 (blk_below (g := gb432) (o := .cells #[.int .i64 a0_0, .int .i64 a0_1, .int .u8 a0_2, .int .i64 a0_3, .int .i64 a0_4] 94 (0,0)) (by (with_reducible repeat (first | refine blk_drewN ?_ _ | refine blk_drew ?_ | refine blk_alloc ?_ _));exact BK432.out) hb);have n1_ := am0 (below_step (by repeat (first | (with_reducible first | exact HB.out | apply below_alloc | apply pw_below_drewN | apply below_drew1 | refine below_set ?_ GE432.out) | exact HB.out)) hb);have n2_ := am0 (hbox);have n3_ := am0 ((by rw [hg];exact (below_size (by repeat (first | (with_reducible first | exact HB.out | apply below_alloc | apply pw_below_drewN | apply below_drew1 | refine below_set ?_ GE432.out) | exact HB.out))) : w.heap.size ≤ gb433));have n4_ := am0 ((by rw [hg];exact (below_size (by repeat (first | (with_reducible first | exact HB.out | apply below_alloc | apply pw_below_drewN | apply below_drew1 | refine below_set ?_ GE432.out) | exact HB.out))) : w.heap.size ≤ gb433));have n5_ := am0 ((by rw [hg];exact Nat.ne_of_lt (blk_lt (g := gb432) (o := .cells #[.int .i64 a0_0, .int .i64 a0_1, .int .u8 a0_2, .int .i64 a0_3, .int .i64 a0_4] 94 (0,0)) (by (with_reducible repeat (first | refine blk_drewN ?_ _ | refine blk_drew ?_ | refine blk_alloc ?_ _));exact BK432.out)) : gb432 ≠ gb433));have n6_ := am0 ((by rw [hg];exact Nat.ne_of_gt (blk_lt (g := gb432) (o := .cells #[.int .i64 a0_0, .int .i64 a0_1, .int .u8 a0_2, .int .i64 a0_3, .int .i64 a0_4] 94 (0,0)) (by (with_reducible repeat (first | refine blk_drewN ?_ _ | refine blk_drew ?_ | refine blk_alloc ?_ _));exact BK432.out)) : gb433 ≠ gb432));clear BK432;clear HB;have BK432 := n0_;have HB := n1_;have BK433 := n2_;have GW433 := n3_;have GE433 := n4_;have NB432_433 := n5_;have NB433_432 := n6_;clear n0_ n1_ n2_ n3_ n4_ n5_ n6_;clear hb hbox hg;have hnb14 := NB432_433.out;have hnc14 := NB433_432.out;have hcz15_0 : w13.cell? ⟨gb432,0,none⟩ = some (.int .i64 a0_0) := (blk_cell BK432.out 0).trans rfl;have hcz15_1 : w13.cell? ⟨gb432,1,none⟩ = some (.int .i64 a0_1) := (blk_cell BK432.out 1).trans rfl;have hcz15_2 : w13.cell? ⟨gb432,2,none⟩ = some (.int .u8 a0_2) := (blk_cell BK432.out 2).trans rfl;have hcz15_3 : w13.cell? ⟨gb432,3,none⟩ = some (.int .i64 a0_3) := (blk_cell BK432.out 3).trans rfl;have hcz15_4 : w13.cell? ⟨gb432,4,none⟩ = some (.int .i64 a0_4) := (blk_cell BK432.out 4).trans rfl;have hfz15_0 := blk_frozen BK432.out 0;have hfz15_1 := blk_frozen BK432.out 1;have hfz15_2 := blk_frozen BK432.out 2;have hfz15_3 := blk_frozen BK432.out 3;have hfz15_4 := blk_frozen BK432.out 4;have hcz16_0 : w13.cell? ⟨gb433,0,none⟩ = some (.int .i64 a1_0) := (blk_cell BK433.out 0).trans rfl;have hcz16_1 : w13.cell? ⟨gb433,1,none⟩ = some (.int .i64 a1_1) := (blk_cell BK433.out 1).trans rfl;have hcz16_2 : w13.cell? ⟨gb433,2,none⟩ = some (.int .u8 a1_2) := (blk_cell BK433.out 2).trans rfl;have hcz16_3 : w13.cell? ⟨gb433,3,none⟩ = some (.int .i64 a1_3) := (blk_cell BK433.out 3).trans rfl;have hcz16_4 : w13.cell? ⟨gb433,4,none⟩ = some (.int .i64 a1_4) := (blk_cell BK433.out 4).trans rfl;have hfz16_0 := blk_frozen BK433.out 0;have hfz16_1 := blk_frozen BK433.out 1;have hfz16_2 := blk_frozen BK433.out 2;have hfz16_3 := blk_frozen BK433.out 3;have hfz16_4 := blk_frozen BK433.out 4));try go_wp2_with (first | ((with_reducible refine gate_dst (N := 2) rfl ?_);refine box_event ?hg (N := 2) ?hd (cs := #[.int .i64 a0_0, .int .i64 a0_1, .int .u8 a0_2, .int .i64 a0_3, .int .i64 a0_4]) (t := 94) ?hr ?_;(case hd => rfl);(case hg => rfl);(case hr => first | (go_simp;done) | (go_simp;rfl));intro gb432 hg w12 hbox hb;have n0_ := am0 (below_step (by repeat (first | (with_reducible first | exact HB.out | apply below_alloc | apply pw_below_drewN | apply below_drew1) | exact HB.out)) hb);have n1_ := am0 (hbox);have n2_ := am0 ((by rw [hg];exact (below_size (by repeat (first | (with_reducible first | exact HB.out | apply below_alloc | apply pw_below_drewN | apply below_drew1) | exact HB.out))) : w.heap.size ≤ gb432));have n3_ := am0 ((by rw [hg];exact (below_size (by repeat (first | (with_reducible first | exact HB.out | apply below_alloc | apply pw_below_drewN | apply below_drew1) | exact HB.out))) : w.heap.size ≤ gb432));clear HB;have HB := n0_;have BK432 := n1_;have GW432 := n2_;have GE432 := n3_;clear n0_ n1_ n2_ n3_;clear hb hbox hg) | ((with_reducible refine gate_dst (N := 3) rfl ?_);refine box_event ?hg (N := 3) ?hd (cs := #[.int .i64 a1_0, .int .i64 a1_1, .int .u8 a1_2, .int .i64 a1_3, .int .i64 a1_4]) (t := 94) ?hr ?_;(case hd => rfl);(case hg => rfl);(case hr => first | (go_simp;done) | (go_simp;rfl));intro gb433 hg w13 hbox hb;have n0_ := am0 (blk_below (g := gb432) (o := .cells #[.int .i64 a0_0, .int .i64 a0_1, .int .u8 a0_2, .int .i64 a0_3, .int .i64 a0_4] 94 (0,0)) (by (with_reducible repeat (first | refine blk_drewN ?_ _ | refine blk_drew ?_ | refine blk_alloc ?_ _));exact BK432.out) hb);have n1_ := am0 (below_step (by repeat (first | (with_reducible first | exact HB.out | apply below_alloc | apply pw_below_drewN | apply below_drew1 | refine below_set ?_ GE432.out) | exact HB.out)) hb);have n2_ := am0 (hbox);have n3_ := am0 ((by rw [hg];exact (below_size (by repeat (first | (with_reducible first | exact HB.out | apply below_alloc | apply pw_below_drewN | apply below_drew1 | refine below_set ?_ GE432.out) | exact HB.out))) : w.heap.size ≤ gb433));have n4_ := am0 ((by rw [hg];exact (below_size (by repeat (first | (with_reducible first | exact HB.out | apply below_alloc | apply pw_below_drewN | apply below_drew1 | refine below_set ?_ GE432.out) | exact HB.out))) : w.heap.size ≤ gb433));have n5_ := am0 ((by rw [hg];exact Nat.ne_of_lt (blk_lt (g := gb432) (o := .cells #[.int .i64 a0_0, .int .i64 a0_1, .int .u8 a0_2, .int .i64 a0_3, .int .i64 a0_4] 94 (0,0)) (by (with_reducible repeat (first | refine blk_drewN ?_ _ | refine blk_drew ?_ | refine blk_alloc ?_ _));exact BK432.out)) : gb432 ≠ gb433));have n6_ := am0 ((by rw [hg];exact Nat.ne_of_gt (blk_lt (g := gb432) (o := .cells #[.int .i64 a0_0, .int .i64 a0_1, .int .u8 a0_2, .int .i64 a0_3, .int .i64 a0_4] 94 (0,0)) (by (with_reducible repeat (first | refine blk_drewN ?_ _ | refine blk_drew ?_ | refine blk_alloc ?_ _));exact BK432.out)) : gb433 ≠ gb432));clear BK432;clear HB;have BK432 := n0_;have HB := n1_;have BK433 := n2_;have GW433 := n3_;have GE433 := n4_;have NB432_433 := n5_;have NB433_432 := n6_;clear n0_ n1_ n2_ n3_ n4_ n5_ n6_;clear hb hbox hg;have hnb14 := NB432_433.out;have hnc14 := NB433_432.out;have hcz15_0 : w13.cell? ⟨gb432,0,none⟩ = some (.int .i64 a0_0) := (blk_cell BK432.out 0).trans rfl;have hcz15_1 : w13.cell? ⟨gb432,1,none⟩ = some (.int .i64 a0_1) := (blk_cell BK432.out 1).trans rfl;have hcz15_2 : w13.cell? ⟨gb432,2,none⟩ = some (.int .u8 a0_2) := (blk_cell BK432.out 2).trans rfl;have hcz15_3 : w13.cell? ⟨gb432,3,none⟩ = some (.int .i64 a0_3) := (blk_cell BK432.out 3).trans rfl;have hcz15_4 : w13.cell? ⟨gb432,4,none⟩ = some (.int .i64 a0_4) := (blk_cell BK432.out 4).trans rfl;have hfz15_0 := blk_frozen BK432.out 0;have hfz15_1 := blk_frozen BK432.out 1;have hfz15_2 := blk_frozen BK432.out 2;have hfz15_3 := blk_frozen BK432.out 3;have hfz15_4 := blk_frozen BK432.out 4;have hcz16_0 : w13.cell? ⟨gb433,0,none⟩ = some (.int .i64 a1_0) := (blk_cell BK433.out 0).trans rfl;have hcz16_1 : w13.cell? ⟨gb433,1,none⟩ = some (.int .i64 a1_1) := (blk_cell BK433.out 1).trans rfl;have hcz16_2 : w13.cell? ⟨gb433,2,none⟩ = some (.int .u8 a1_2) := (blk_cell BK433.out 2).trans rfl;have hcz16_3 : w13.cell? ⟨gb433,3,none⟩ = some (.int .i64 a1_3) := (blk_cell BK433.out 3).trans rfl;have hcz16_4 : w13.cell? ⟨gb433,4,none⟩ = some (.int .i64 a1_4) := (blk_cell BK433.out 4).trans rfl;have hfz16_0 := blk_frozen BK433.out 0;have hfz16_1 := blk_frozen BK433.out 1;have hfz16_2 := blk_frozen BK433.out 2;have hfz16_3 := blk_frozen BK433.out 3;have hfz16_4 := blk_frozen BK433.out 4)))
  go_ret
  exact ⟨by first | rfl | (simp [errW_none,errW_some] <;> rfl) | (simp only [← hji3, ← hji4];first | rfl | (simp [errW_none,errW_some] <;> rfl)) | (simp [*,errW_none,errW_some] <;> rfl),by repeat (first | (with_reducible first | exact HB.out | apply below_alloc | apply pw_below_drewN | apply below_drew1 | refine below_set ?_ GE432.out | refine below_set ?_ GE433.out) | exact HB.out)⟩
 rw [if_neg c5] at H;have c5b0 : decide (33 ≤ (ji3)) = false := decide_eq_false c5;clear c5;obtain rfl := Option.some.inj H;go_enter Tryd.func66,Tryd.ntmps66
 go_wp2_with (first | ((with_reducible refine gate_dst (N := 2) rfl ?_);refine box_event ?hg (N := 2) ?hd (cs := #[.int .i64 a0_0, .int .i64 a0_1, .int .u8 a0_2, .int .i64 a0_3, .int .i64 a0_4]) (t := 94) ?hr ?_;(case hd => rfl);(case hg => rfl);(case hr => first | (go_simp;done) | (go_simp;rfl));intro gb432 hg w17 hbox hb;have n0_ := am0 (below_step (by repeat (first | (with_reducible first | exact HB.out | apply below_alloc | apply pw_below_drewN | apply below_drew1) | exact HB.out)) hb);have n1_ := am0 (hbox);have n2_ := am0 ((by rw [hg];exact (below_size (by repeat (first | (with_reducible first | exact HB.out | apply below_alloc | apply pw_below_drewN | apply below_drew1) | exact HB.out))) : w.heap.size ≤ gb432));have n3_ := am0 ((by rw [hg];exact (below_size (by repeat (first | (with_reducible first | exact HB.out | apply below_alloc | apply pw_below_drewN | apply below_drew1) | exact HB.out))) : w.heap.size ≤ gb432));clear HB;have HB := n0_;have BK432 := n1_;have GW432 := n2_;have GE432 := n3_;clear n0_ n1_ n2_ n3_;clear hb hbox hg) | ((with_reducible refine gate_dst (N := 3) rfl ?_);refine box_event ?hg (N := 3) ?hd (cs := #[.int .i64 a1_0, .int .i64 a1_1, .int .u8 a1_2, .int .i64 a1_3, .int .i64 a1_4]) (t := 94) ?hr ?_;(case hd => rfl);(case hg => rfl);(case hr => first | (go_simp;done) | (go_simp;rfl));intro gb433 hg w18 hbox hb;have n0_ := am0 (blk_below (g := gb432) (o := .cells #[.int .i64 a0_0, .int .i64 a0_1, .int .u8 a0_2, .int .i64 a0_3, .int .i64 a0_4] 94 (0,0)) (by (with_reducible repeat (first | refine blk_drewN ?_ _ | refine blk_drew ?_ | refine blk_alloc ?_ _));exact BK432.out) hb);have n1_ := am0 (below_step (by repeat (first | (with_reducible first | exact HB.out | apply below_alloc | apply pw_below_drewN | apply below_drew1 | refine below_set ?_ GE432.out) | exact HB.out)) hb);have n2_ := am0 (hbox);have n3_ := am0 ((by rw [hg];exact (below_size (by repeat (first | (with_reducible first | exact HB.out | apply below_alloc | apply pw_below_drewN | apply below_drew1 | refine below_set ?_ GE432.out) | exact HB.out))) : w.heap.size ≤ gb433));have n4_ := am0 ((by rw [hg];exact (below_size (by repeat (first | (with_reducible first | exact HB.out | apply below_alloc | apply pw_below_drewN | apply below_drew1 | refine below_set ?_ GE432.out) | exact HB.out))) : w.heap.size ≤ gb433));have n5_ := am0 ((by rw [hg];exact Nat.ne_of_lt (blk_lt (g := gb432) (o := .cells #[.int .i64 a0_0, .int .i64 a0_1, .int .u8 a0_2, .int .i64 a0_3, .int .i64 a0_4] 94 (0,0)) (by (with_reducible repeat (first | refine blk_drewN ?_ _ | refine blk_drew ?_ | refine blk_alloc ?_ _));exact BK432.out)) : gb432 ≠ gb433));have n6_ := am0 ((by rw [hg];exact Nat.ne_of_gt (blk_lt (g := gb432) (o := .cells #[.int .i64 a0_0, .int .i64 a0_1, .int .u8 a0_2, .int .i64 a0_3, .int .i64 a0_4] 94 (0,0)) (by (with_reducible repeat (first | refine blk_drewN ?_ _ | refine blk_drew ?_ | refine blk_alloc ?_ _));exact BK432.out)) : gb433 ≠ gb432));clear BK432;clear HB;have BK432 := n0_;have HB := n1_;have BK433 := n2_;have GW433 := n3_;have GE433 := n4_;have NB432_433 := n5_;have NB433_432 := n6_;clear n0_ n1_ n2_ n3_ n4_ n5_ n6_;clear hb hbox hg;have hnb19 := NB432_433.out;have hnc19 := NB433_432.out;have hcz20_0 : w18.cell? ⟨gb432,0,none⟩ = some (.int .i64 a0_0) := (blk_cell BK432.out 0).trans rfl;have hcz20_1 : w18.cell? ⟨gb432,1,none⟩ = some (.int .i64 a0_1) := (blk_cell BK432.out 1).trans rfl;have hcz20_2 : w18.cell? ⟨gb432,2,none⟩ = some (.int .u8 a0_2) := (blk_cell BK432.out 2).trans rfl;have hcz20_3 : w18.cell? ⟨gb432,3,none⟩ = some (.int .i64 a0_3) := (blk_cell BK432.out 3).trans rfl;have hcz20_4 : w18.cell? ⟨gb432,4,none⟩ = some (.int .i64 a0_4) := (blk_cell BK432.out 4).trans rfl;have hfz20_0 := blk_frozen BK432.out 0;have hfz20_1 := blk_frozen BK432.out 1;have hfz20_2 := blk_frozen BK432.out 2;have hfz20_3 := blk_frozen BK432.out 3;have hfz20_4 := blk_frozen BK432.out 4;have hcz21_0 : w18.cell? ⟨gb433,0,none⟩ = some (.int .i64 a1_0) := (blk_cell BK433.out 0).trans rfl;have hcz21_1 : w18.cell? ⟨gb433,1,none⟩ = some (.int .i64 a1_1) := (blk_cell BK433.out 1).trans rfl;have hcz21_2 : w18.cell? ⟨gb433,2,none⟩ = some (.int .u8 a1_2) := (blk_cell BK433.out 2).trans rfl;have hcz21_3 : w18.cell? ⟨gb433,3,none⟩ = some (.int .i64 a1_3) := (blk_cell BK433.out 3).trans rfl;have hcz21_4 : w18.cell? ⟨gb433,4,none⟩ = some (.int .i64 a1_4) := (blk_cell BK433.out 4).trans rfl;have hfz21_0 := blk_frozen BK433.out 0;have hfz21_1 := blk_frozen BK433.out 1;have hfz21_2 := blk_frozen BK433.out 2;have hfz21_3 := blk_frozen BK433.out 3;have hfz21_4 := blk_frozen BK433.out 4))
 repeat (go_quiet (first | ((with_reducible refine gate_dst (N := 2) rfl ?_);refine box_event ?hg (N := 2) ?hd (cs := #[.int .i64 a0_0, .int .i64 a0_1, .int .u8 a0_2, .int .i64 a0_3, .int .i64 a0_4]) (t := 94) ?hr ?_;(case hd => rfl);(case hg => rfl);(case hr => first | (go_simp;done) | (go_simp;rfl));intro gb432 hg w17 hbox hb;have n0_ := am0 (below_step (by repeat (first | (with_reducible first | exact HB.out | apply below_alloc | apply pw_below_drewN | apply below_drew1) | exact HB.out)) hb);have n1_ := am0 (hbox);have n2_ := am0 ((by rw [hg];exact (below_size (by repeat (first | (with_reducible first | exact HB.out | apply below_alloc | apply pw_below_drewN | apply below_drew1) | exact HB.out))) : w.heap.size ≤ gb432));have n3_ := am0 ((by rw [hg];exact (below_size (by repeat (first | (with_reducible first | exact HB.out | apply below_alloc | apply pw_below_drewN | apply below_drew1) | exact HB.out))) : w.heap.size ≤ gb432));clear HB;have HB := n0_;have BK432 := n1_;have GW432 := n2_;have GE432 := n3_;clear n0_ n1_ n2_ n3_;clear hb hbox hg) | ((with_reducible refine gate_dst (N := 3) rfl ?_);refine box_event ?hg (N := 3) ?hd (cs := #[.int .i64 a1_0, .int .i64 a1_1, .int .u8 a1_2, .int .i64 a1_3, .int .i64 a1_4]) (t := 94) ?hr ?_;(case hd => rfl);(case hg => rfl);(case hr => first | (go_simp;done) | (go_simp;rfl));intro gb433 hg w18 hbox hb;have n0_ := am0 (blk_below (g := gb432) (o := .cells #[.int .i64 a0_0, .int .i64 a0_1, .int .u8 a0_2, .int .i64 a0_3, .int .i64 a0_4] 94 (0,0)) (by (with_reducible repeat (first | refine blk_drewN ?_ _ | refine blk_drew ?_ | refine blk_alloc ?_ _));exact BK432.out) hb);have n1_ := am0 (below_step (by repeat (first | (with_reducible first | exact HB.out | apply below_alloc | apply pw_below_drewN | apply below_drew1 | refine below_set ?_ GE432.out) | exact HB.out)) hb);have n2_ := am0 (hbox);have n3_ := am0 ((by rw [hg];exact (below_size (by repeat (first | (with_reducible first | exact HB.out | apply below_alloc | apply pw_below_drewN | apply below_drew1 | refine below_set ?_ GE432.out) | exact HB.out))) : w.heap.size ≤ gb433));have n4_ := am0 ((by rw [hg];exact (below_size (by repeat (first | (with_reducible first | exact HB.out | apply below_alloc | apply pw_below_drewN | apply below_drew1 | refine below_set ?_ GE432.out) | exact HB.out))) : w.heap.size ≤ gb433));have n5_ := am0 ((by rw [hg];exact Nat.ne_of_lt (blk_lt (g := gb432) (o := .cells #[.int .i64 a0_0, .int .i64 a0_1, .int .u8 a0_2, .int .i64 a0_3, .int .i64 a0_4] 94 (0,0)) (by (with_reducible repeat (first | refine blk_drewN ?_ _ | refine blk_drew ?_ | refine blk_alloc ?_ _));exact BK432.out)) : gb432 ≠ gb433));have n6_ := am0 ((by rw [hg];exact Nat.ne_of_gt (blk_lt (g := gb432) (o := .cells #[.int .i64 a0_0, .int .i64 a0_1, .int .u8 a0_2, .int .i64 a0_3, .int .i64 a0_4] 94 (0,0)) (by (with_reducible repeat (first | refine blk_drewN ?_ _ | refine blk_drew ?_ | refine blk_alloc ?_ _));exact BK432.out)) : gb433 ≠ gb432));clear BK432;clear HB;have BK432 := n0_;have HB := n1_;have BK433 := n2_;have GW433 := n3_;have GE433 := n4_;have NB432_433 := n5_;have NB433_432 := n6_;clear n0_ n1_ n2_ n3_ n4_ n5_ n6_;clear hb hbox hg;have hnb19 := NB432_433.out;have hnc19 := NB433_432.out;have hcz20_0 : w18.cell? ⟨gb432,0,none⟩ = some (.int .i64 a0_0) := (blk_cell BK432.out 0).trans rfl;have hcz20_1 : w18.cell? ⟨gb432,1,none⟩ = some (.int .i64 a0_1) := (blk_cell BK432.out 1).trans rfl;have hcz20_2 : w18.cell? ⟨gb432,2,none⟩ = some (.int .u8 a0_2) := (blk_cell BK432.out 2).trans rfl;have hcz20_3 : w18.cell? ⟨gb432,3,none⟩ = some (.int .i64 a0_3) := (blk_cell BK432.out 3).trans rfl;have hcz20_4 : w18.cell? ⟨gb432,4,none⟩ = some (.int .i64 a0_4) := (blk_cell BK432.out 4).trans rfl;have hfz20_0 := blk_frozen BK432.out 0;have hfz20_1 := blk_frozen BK432.out 1;have hfz20_2 := blk_frozen BK432.out 2;have hfz20_3 := blk_frozen BK432.out 3;have hfz20_4 := blk_frozen BK432.out 4;have hcz21_0 : w18.cell? ⟨gb433,0,none⟩ = some (.int .i64 a1_0) := (blk_cell BK433.out 0).trans rfl;have hcz21_1 : w18.cell? ⟨gb433,1,none⟩ = some (.int .i64 a1_1) := (blk_cell BK433.out 1).trans rfl;have hcz21_2 : w18.cell? ⟨gb433,2,none⟩ = some (.int .u8 a1_2) := (blk_cell BK433.out 2).trans rfl;have hcz21_3 : w18.cell? ⟨gb433,3,none⟩ = some (.int .i64 a1_3) := (blk_cell BK433.out 3).trans rfl;have hcz21_4 : w18.cell? ⟨gb433,4,none⟩ = some (.int .i64 a1_4) := (blk_cell BK433.out 4).trans rfl;have hfz21_0 := blk_frozen BK433.out 0;have hfz21_1 := blk_frozen BK433.out 1;have hfz21_2 := blk_frozen BK433.out 2;have hfz21_3 := blk_frozen BK433.out 3;have hfz21_4 := blk_frozen BK433.out 4));try go_wp2_with (first | ((with_reducible refine gate_dst (N := 2) rfl ?_);refine box_event ?hg (N := 2) ?hd (cs := #[.int .i64 a0_0, .int .i64 a0_1, .int .u8 a0_2, .int .i64 a0_3, .int .i64 a0_4]) (t := 94) ?hr ?_;(case hd => rfl);(case hg => rfl);(case hr => first | (go_simp;done) | (go_simp;rfl));intro gb432 hg w17 hbox hb;have n0_ := am0 (below_step (by repeat (first | (with_reducible first | exact HB.out | apply below_alloc | apply pw_below_drewN | apply below_drew1) | exact HB.out)) hb);have n1_ := am0 (hbox);have n2_ := am0 ((by rw [hg];exact (below_size (by repeat (first | (with_reducible first | exact HB.out | apply below_alloc | apply pw_below_drewN | apply below_drew1) | exact HB.out))) : w.heap.size ≤ gb432));have n3_ := am0 ((by rw [hg];exact (below_size (by repeat (first | (with_reducible first | exact HB.out | apply below_alloc | apply pw_below_drewN | apply below_drew1) | exact HB.out))) : w.heap.size ≤ gb432));clear HB;have HB := n0_;have BK432 := n1_;have GW432 := n2_;have GE432 := n3_;clear n0_ n1_ n2_ n3_;clear hb hbox hg) | ((with_reducible refine gate_dst (N := 3) rfl ?_);refine box_event ?hg (N := 3) ?hd (cs := #[.int .i64 a1_0, .int .i64 a1_1, .int .u8 a1_2, .int .i64 a1_3, .int .i64 a1_4]) (t := 94) ?hr ?_;(case hd => rfl);(case hg => rfl);(case hr => first | (go_simp;done) | (go_simp;rfl));intro gb433 hg w18 hbox hb;have n0_ := am0 (blk_below (g := gb432) (o := .cells #[.int .i64 a0_0, .int .i64 a0_1, .int .u8 a0_2, .int .i64 a0_3, .int .i64 a0_4] 94 (0,0)) (by (with_reducible repeat (first | refine blk_drewN ?_ _ | refine blk_drew ?_ | refine blk_alloc ?_ _));exact BK432.out) hb);have n1_ := am0 (below_step (by repeat (first | (with_reducible first | exact HB.out | apply below_alloc | apply pw_below_drewN | apply below_drew1 | refine below_set ?_ GE432.out) | exact HB.out)) hb);have n2_ := am0 (hbox);have n3_ := am0 ((by rw [hg];exact (below_size (by repeat (first | (with_reducible first | exact HB.out | apply below_alloc | apply pw_below_drewN | apply below_drew1 | refine below_set ?_ GE432.out) | exact HB.out))) : w.heap.size ≤ gb433));have n4_ := am0 ((by rw [hg];exact (below_size (by repeat (first | (with_reducible first | exact HB.out | apply below_alloc | apply pw_below_drewN | apply below_drew1 | refine below_set ?_ GE432.out) | exact HB.out))) : w.heap.size ≤ gb433));have n5_ := am0 ((by rw [hg];exact Nat.ne_of_lt (blk_lt (g := gb432) (o := .cells #[.int .i64 a0_0, .int .i64 a0_1, .int .u8 a0_2, .int .i64 a0_3, .int .i64 a0_4] 94 (0,0)) (by (with_reducible repeat (first | refine blk_drewN ?_ _ | refine blk_drew ?_ | refine blk_alloc ?_ _));exact BK432.out)) : gb432 ≠ gb433));have n6_ := am0 ((by rw [hg];exact Nat.ne_of_gt (blk_lt (g := gb432) (o := .cells #[.int .i64 a0_0, .int .i64 a0_1, .int .u8 a0_2, .int .i64 a0_3, .int .i64 a0_4] 94 (0,0)) (by (with_reducible repeat (first | refine blk_drewN ?_ _ | refine blk_drew ?_ | refine blk_alloc ?_ _));exact BK432.out)) : gb433 ≠ gb432));clear BK432;clear HB;have BK432 := n0_;have HB := n1_;have BK433 := n2_;have GW433 := n3_;have GE433 := n4_;have NB432_433 := n5_;have NB433_432 := n6_;clear n0_ n1_ n2_ n3_ n4_ n5_ n6_;clear hb hbox hg;have hnb19 := NB432_433.out;have hnc19 := NB433_432.out;have hcz20_0 : w18.cell? ⟨gb432,0,none⟩ = some (.int .i64 a0_0) := (blk_cell BK432.out 0).trans rfl;have hcz20_1 : w18.cell? ⟨gb432,1,none⟩ = some (.int .i64 a0_1) := (blk_cell BK432.out 1).trans rfl;have hcz20_2 : w18.cell? ⟨gb432,2,none⟩ = some (.int .u8 a0_2) := (blk_cell BK432.out 2).trans rfl;have hcz20_3 : w18.cell? ⟨gb432,3,none⟩ = some (.int .i64 a0_3) := (blk_cell BK432.out 3).trans rfl;have hcz20_4 : w18.cell? ⟨gb432,4,none⟩ = some (.int .i64 a0_4) := (blk_cell BK432.out 4).trans rfl;have hfz20_0 := blk_frozen BK432.out 0;have hfz20_1 := blk_frozen BK432.out 1;have hfz20_2 := blk_frozen BK432.out 2;have hfz20_3 := blk_frozen BK432.out 3;have hfz20_4 := blk_frozen BK432.out 4;have hcz21_0 : w18.cell? ⟨gb433,0,none⟩ = some (.int .i64 a1_0) := (blk_cell BK433.out 0).trans rfl;have hcz21_1 : w18.cell? ⟨gb433,1,none⟩ = some (.int .i64 a1_1) := (blk_cell BK433.out 1).trans rfl;have hcz21_2 : w18.cell? ⟨gb433,2,none⟩ = some (.int .u8 a1_2) := (blk_cell BK433.out 2).trans rfl;have hcz21_3 : w18.cell? ⟨gb433,3,none⟩ = some (.int .i64 a1_3) := (blk_cell BK433.out 3).trans rfl;have hcz21_4 : w18.cell? ⟨gb433,4,none⟩ = some (.int .i64 a1_4) := (blk_cell BK433.out 4).trans rfl;have hfz21_0 := blk_frozen BK433.out 0;have hfz21_1 := blk_frozen BK433.out 1;have hfz21_2 := blk_frozen BK433.out 2;have hfz21_3 := blk_frozen BK433.out 3;have hfz21_4 := blk_frozen BK433.out 4)))
 go_ret
 exact ⟨by first | rfl | (simp [errW_none,errW_some] <;> rfl) | (simp only [← hji3, ← hji4];first | rfl | (simp [errW_none,errW_some] <;> rfl)) | (simp [*,errW_none,errW_some] <;> rfl),by repeat (first | (with_reducible first | exact HB.out | apply below_alloc | apply pw_below_drewN | apply below_drew1 | refine below_set ?_ GE432.out | refine below_set ?_ GE433.out) | exact HB.out)⟩
def elfw_apart.f (k : Nat) (a0_0 : Int) (a0_1 : Int) (a0_2 : Int) (a0_3 : Int) (a0_4 : Int) (a1_0 : Int) (a1_1 : Int) (a1_2 : Int) (a1_3 : Int) (a1_4 : Int) : Option (Bool) := (elfw_span.f k a0_0 a0_1 a0_2 a0_3 a0_4).bind fun bt436 => ((elfw_span.f k a1_0 a1_1 a1_2 a1_3 a1_4).bind fun bt438 => (if bt436.1 = bt436.2 then (some true) else (if bt438.1 = bt438.2 then (some true) else (if bt436.2 ≤ bt438.1 then (some true) else (if bt438.2 ≤ bt436.1 then (some true) else (if bt436.1 = bt438.1 then ((elfw_sums.f a0_0 a0_1 a0_2 a0_3 a0_4 a1_0 a1_1 a1_2 a1_3 a1_4).bind fun t440 => (some t440)) else (some false)))))))
theorem elfw_apart.mono : ∀ a0 a1 a2 a3 a4 a5 a6 a7 a8 a9 k,LeO (elfw_apart.f k a0 a1 a2 a3 a4 a5 a6 a7 a8 a9) (elfw_apart.f (k + 1) a0 a1 a2 a3 a4 a5 a6 a7 a8 a9) := by
 intro a0 a1 a2 a3 a4 a5 a6 a7 a8 a9 k;unfold elfw_apart.f
 repeat' first
   | (with_reducible exact elfw_span.mono _ _ _ _ _ _)
   | (with_reducible exact LeO.refl _)
   | (with_reducible exact LeO.none _)
   | (with_reducible refine LeO.ite ?_ ?_)
   | (with_reducible refine LeO.bind ?_ (fun _ => ?_))
   | exact elfw_span.mono _ _ _ _ _ _
   | exact LeO.none _
   | refine LeO.ite ?_ ?_
   | refine LeO.bind ?_ (fun _ => ?_)
set_option maxHeartbeats 8000000 in
set_option maxRecDepth 100000 in
theorem elfw_apart.calls (k : Nat) (a0_0 : Int) (a0_1 : Int) (a0_2 : Int) (a0_3 : Int) (a0_4 : Int) (a1_0 : Int) (a1_1 : Int) (a1_2 : Int) (a1_3 : Int) (a1_4 : Int) (r : Bool) (w : World) (h : elfw_apart.f k a0_0 a0_1 a0_2 a0_3 a0_4 a1_0 a1_1 a1_2 a1_3 a1_4 = some r) :
  Calls Tryd.prog 48 #[.agg #[.int .i64 a0_0, .int .i64 a0_1, .int .u8 a0_2, .int .i64 a0_3, .int .i64 a0_4], .agg #[.int .i64 a1_0, .int .i64 a1_1, .int .u8 a1_2, .int .i64 a1_3, .int .i64 a1_4]] w fun e w' => e = .returned (.bool r) ∧ Below w.heap.size w w' := by
 have hu94 := Tryd.underlying94;have HB := am0 (Below.refl w.heap.size w);have H : ((elfw_span.f k a0_0 a0_1 a0_2 a0_3 a0_4).bind fun bt436 => ((elfw_span.f k a1_0 a1_1 a1_2 a1_3 a1_4).bind fun bt438 => (if bt436.1 = bt436.2 then (some true) else (if bt438.1 = bt438.2 then (some true) else (if bt436.2 ≤ bt438.1 then (some true) else (if bt438.2 ≤ bt436.1 then (some true) else (if bt436.1 = bt438.1 then ((elfw_sums.f a0_0 a0_1 a0_2 a0_3 a0_4 a1_0 a1_1 a1_2 a1_3 a1_4).bind fun t440 => (some t440)) else (some false)))))))) = some r := h;clear h;replace H := Option.bind_eq_some_iff.mp H;obtain ⟨⟨t436,t437⟩,A30,H⟩ := H;replace H : ((elfw_span.f k a1_0 a1_1 a1_2 a1_3 a1_4).bind fun bt438 => (if t436 = t437 then (some true) else (if bt438.1 = bt438.2 then (some true) else (if t437 ≤ bt438.1 then (some true) else (if bt438.2 ≤ t436 then (some true) else (if t436 = bt438.1 then ((elfw_sums.f a0_0 a0_1 a0_2 a0_3 a0_4 a1_0 a1_1 a1_2 a1_3 a1_4).bind fun t440 => (some t440)) else (some false))))))) = some r := H;have A3 := am0 A30;clear A30;replace H := Option.bind_eq_some_iff.mp H;obtain ⟨⟨t438,t439⟩,A40,H⟩ := H;replace H : (if t436 = t437 then (some true) else (if t438 = t439 then (some true) else (if t437 ≤ t438 then (some true) else (if t439 ≤ t436 then (some true) else (if t436 = t438 then ((elfw_sums.f a0_0 a0_1 a0_2 a0_3 a0_4 a1_0 a1_1 a1_2 a1_3 a1_4).bind fun t440 => (some t440)) else (some false)))))) = some r := H;have A4 := am0 A40;clear A40
 by_cases c5 : t436 = t437
 ·rw [if_pos c5] at H
  have c5b0 : (t436 == t437) = true := beq_iff_eq.mpr c5;have c5b1 : (t436 != t437) = false := bne_eq_false_iff_eq.mpr c5;clear c5;obtain rfl := Option.some.inj H;go_enter Tryd.func48,Tryd.ntmps48
  go_wp2_with (first | ((with_reducible refine gate_dst (N := 2) rfl ?_);refine box_event ?hg (N := 2) ?hd (cs := #[.int .i64 a0_0, .int .i64 a0_1, .int .u8 a0_2, .int .i64 a0_3, .int .i64 a0_4]) (t := 94) ?hr ?_;(case hd => rfl);(case hg => rfl);(case hr => first | (go_simp;done) | (go_simp;rfl));intro gb434 hg w6 hbox hb;have n0_ := am0 (below_step (by repeat (first | (with_reducible first | exact HB.out | apply below_alloc | apply pw_below_drewN | apply below_drew1) | exact HB.out)) hb);have n1_ := am0 (hbox);have n2_ := am0 ((by rw [hg];exact (below_size (by repeat (first | (with_reducible first | exact HB.out | apply below_alloc | apply pw_below_drewN | apply below_drew1) | exact HB.out))) : w.heap.size ≤ gb434));have n3_ := am0 ((by rw [hg];exact (below_size (by repeat (first | (with_reducible first | exact HB.out | apply below_alloc | apply pw_below_drewN | apply below_drew1) | exact HB.out))) : w.heap.size ≤ gb434));clear HB;have HB := n0_;have BK434 := n1_;have GW434 := n2_;have GE434 := n3_;clear n0_ n1_ n2_ n3_;clear hb hbox hg) | ((with_reducible refine gate_dst (N := 3) rfl ?_);refine box_event ?hg (N := 3) ?hd (cs := #[.int .i64 a1_0, .int .i64 a1_1, .int .u8 a1_2, .int .i64 a1_3, .int .i64 a1_4]) (t := 94) ?hr ?_;(case hd => rfl);(case hg => rfl);(case hr => first | (go_simp;done) | (go_simp;rfl));intro gb435 hg w7 hbox hb;have n0_ := am0 (blk_below (g := gb434) (o := .cells #[.int .i64 a0_0, .int .i64 a0_1, .int .u8 a0_2, .int .i64 a0_3, .int .i64 a0_4] 94 (0,0)) (by (with_reducible repeat (first | refine blk_drewN ?_ _ | refine blk_drew ?_ | refine blk_alloc ?_ _));exact BK434.out) hb);have n1_ := am0 (below_step (by repeat (first | (with_reducible first | exact HB.out | apply below_alloc | apply pw_below_drewN | apply below_drew1 | refine below_set ?_ GE434.out) | exact HB.out)) hb);have n2_ := am0 (hbox);have n3_ := am0 ((by rw [hg];exact (below_size (by repeat (first | (with_reducible first | exact HB.out | apply below_alloc | apply pw_below_drewN | apply below_drew1 | refine below_set ?_ GE434.out) | exact HB.out))) : w.heap.size ≤ gb435));have n4_ := am0 ((by rw [hg];exact (below_size (by repeat (first | (with_reducible first | exact HB.out | apply below_alloc | apply pw_below_drewN | apply below_drew1 | refine below_set ?_ GE434.out) | exact HB.out))) : w.heap.size ≤ gb435));have n5_ := am0 ((by rw [hg];exact Nat.ne_of_lt (blk_lt (g := gb434) (o := .cells #[.int .i64 a0_0, .int .i64 a0_1, .int .u8 a0_2, .int .i64 a0_3, .int .i64 a0_4] 94 (0,0)) (by (with_reducible repeat (first | refine blk_drewN ?_ _ | refine blk_drew ?_ | refine blk_alloc ?_ _));exact BK434.out)) : gb434 ≠ gb435));have n6_ := am0 ((by rw [hg];exact Nat.ne_of_gt (blk_lt (g := gb434) (o := .cells #[.int .i64 a0_0, .int .i64 a0_1, .int .u8 a0_2, .int .i64 a0_3, .int .i64 a0_4] 94 (0,0)) (by (with_reducible repeat (first | refine blk_drewN ?_ _ | refine blk_drew ?_ | refine blk_alloc ?_ _));exact BK434.out)) : gb435 ≠ gb434));clear BK434;clear HB;have BK434 := n0_;have HB := n1_;have BK435 := n2_;have GW435 := n3_;have GE435 := n4_;have NB434_435 := n5_;have NB435_434 := n6_;clear n0_ n1_ n2_ n3_ n4_ n5_ n6_;clear hb hbox hg;have hnb8 := NB434_435.out;have hnc8 := NB435_434.out;have hcz9_0 : w7.cell? ⟨gb434,0,none⟩ = some (.int .i64 a0_0) := (blk_cell BK434.out 0).trans rfl;have hcz9_1 : w7.cell? ⟨gb434,1,none⟩ = some (.int .i64 a0_1) := (blk_cell BK434.out 1).trans rfl;have hcz9_2 : w7.cell? ⟨gb434,2,none⟩ = some (.int .u8 a0_2) := (blk_cell BK434.out 2).trans rfl;have hcz9_3 : w7.cell? ⟨gb434,3,none⟩ = some (.int .i64 a0_3) := (blk_cell BK434.out 3).trans rfl;have hcz9_4 : w7.cell? ⟨gb434,4,none⟩ = some (.int .i64 a0_4) := (blk_cell BK434.out 4).trans rfl;have hfz9_0 := blk_frozen BK434.out 0;have hfz9_1 := blk_frozen BK434.out 1;have hfz9_2 := blk_frozen BK434.out 2;have hfz9_3 := blk_frozen BK434.out 3;have hfz9_4 := blk_frozen BK434.out 4) | ((with_reducible refine gate_callee (f := 65) rfl ?_);refine goesL_ (some 11) rfl rfl Tryd.func65 (by kernel_rfl) rfl #[.agg #[.int .i64 a0_0, .int .i64 a0_1, .int .u8 a0_2, .int .i64 a0_3, .int .i64 a0_4]] rfl (by (try simp only [List.map_toArray,List.map_cons,List.map_nil]);first | done | rfl | (simp only [List.length_drop,List.length_take];rfl)) ?_;(with_reducible refine (elfw_span.calls k a0_0 a0_1 a0_2 a0_3 a0_4 t436 t437 _ A3.out).mono ?_);rintro e w10 ⟨rfl,hb⟩;refine ⟨_,rfl, ?_⟩;have n0_ := am0 (blk_below (g := gb434) (o := .cells #[.int .i64 a0_0, .int .i64 a0_1, .int .u8 a0_2, .int .i64 a0_3, .int .i64 a0_4] 94 (0,0)) (by (with_reducible repeat (first | refine blk_drewN ?_ _ | refine blk_drew ?_ | refine blk_alloc ?_ _));exact BK434.out) hb);have n1_ := am0 (blk_below (g := gb435) (o := .cells #[.int .i64 a1_0, .int .i64 a1_1, .int .u8 a1_2, .int .i64 a1_3, .int .i64 a1_4] 94 (0,0)) (by (with_reducible repeat (first | refine blk_drewN ?_ _ | refine blk_drew ?_ | refine blk_alloc ?_ _));exact BK435.out) hb);have n2_ := am0 (below_step (by repeat (first | (with_reducible first | exact HB.out | apply below_alloc | apply pw_below_drewN | apply below_drew1 | refine below_set ?_ GE434.out | refine below_set ?_ GE435.out) | exact HB.out)) hb);clear BK434;clear BK435;clear HB;have BK434 := n0_;have BK435 := n1_;have HB := n2_;clear n0_ n1_ n2_;(try clear hb);(try clear hb2);(try clear hk);(try clear hi);have hcz11_0 : w10.cell? ⟨gb435,0,none⟩ = some (.int .i64 a1_0) := (blk_cell BK435.out 0).trans rfl;have hcz11_1 : w10.cell? ⟨gb435,1,none⟩ = some (.int .i64 a1_1) := (blk_cell BK435.out 1).trans rfl;have hcz11_2 : w10.cell? ⟨gb435,2,none⟩ = some (.int .u8 a1_2) := (blk_cell BK435.out 2).trans rfl;have hcz11_3 : w10.cell? ⟨gb435,3,none⟩ = some (.int .i64 a1_3) := (blk_cell BK435.out 3).trans rfl;have hcz11_4 : w10.cell? ⟨gb435,4,none⟩ = some (.int .i64 a1_4) := (blk_cell BK435.out 4).trans rfl;have hfz11_0 := blk_frozen BK435.out 0;have hfz11_1 := blk_frozen BK435.out 1;have hfz11_2 := blk_frozen BK435.out 2;have hfz11_3 := blk_frozen BK435.out 3;have hfz11_4 := blk_frozen BK435.out 4) | ((with_reducible refine gate_callee (f := 65) rfl ?_);refine goesL_ (some 16) rfl rfl Tryd.func65 (by kernel_rfl) rfl #[.agg #[.int .i64 a1_0, .int .i64 a1_1, .int .u8 a1_2, .int .i64 a1_3, .int .i64 a1_4]] rfl (by (try simp only [List.map_toArray,List.map_cons,List.map_nil]);first | done | rfl | (simp only [List.length_drop,List.length_take];rfl)) ?_;(with_reducible refine (elfw_span.calls k a1_0 a1_1 a1_2 a1_3 a1_4 t438 t439 _ A4.out).mono ?_);rintro e w12 ⟨rfl,hb⟩;refine ⟨_,rfl, ?_⟩;have n0_ := am0 (blk_below (g := gb434) (o := .cells #[.int .i64 a0_0, .int .i64 a0_1, .int .u8 a0_2, .int .i64 a0_3, .int .i64 a0_4] 94 (0,0)) (by (with_reducible repeat (first | refine blk_drewN ?_ _ | refine blk_drew ?_ | refine blk_alloc ?_ _));exact BK434.out) hb);have n1_ := am0 (blk_below (g := gb435) (o := .cells #[.int .i64 a1_0, .int .i64 a1_1, .int .u8 a1_2, .int .i64 a1_3, .int .i64 a1_4] 94 (0,0)) (by (with_reducible repeat (first | refine blk_drewN ?_ _ | refine blk_drew ?_ | refine blk_alloc ?_ _));exact BK435.out) hb);have n2_ := am0 (below_step (by repeat (first | (with_reducible first | exact HB.out | apply below_alloc | apply pw_below_drewN | apply below_drew1 | refine below_set ?_ GE434.out | refine below_set ?_ GE435.out) | exact HB.out)) hb);clear BK434;clear BK435;clear HB;have BK434 := n0_;have BK435 := n1_;have HB := n2_;clear n0_ n1_ n2_;(try clear hb);(try clear hb2);(try clear hk);(try clear hi)))
  go_ret
  exact ⟨by first | rfl | (simp [errW_none,errW_some] <;> rfl) | (simp [*,errW_none,errW_some] <;> rfl),by repeat (first | (with_reducible first | exact HB.out | apply below_alloc | apply pw_below_drewN | apply below_drew1 | refine below_set ?_ GE434.out | refine below_set ?_ GE435.out) | exact HB.out)⟩
 rw [if_neg c5] at H;have c5b0 : (t436 == t437) = false := beq_eq_false_iff_ne.mpr c5;have c5b1 : (t436 != t437) = true := bne_iff_ne.mpr c5
 by_cases c13 : t438 = t439
 ·rw [if_pos c13] at H
  have c13b0 : (t438 == t439) = true := beq_iff_eq.mpr c13;have c13b1 : (t438 != t439) = false := bne_eq_false_iff_eq.mpr c13;clear c13;obtain rfl := Option.some.inj H;go_enter Tryd.func48,Tryd.ntmps48
  go_wp2_with (first | ((with_reducible refine gate_dst (N := 2) rfl ?_);refine box_event ?hg (N := 2) ?hd (cs := #[.int .i64 a0_0, .int .i64 a0_1, .int .u8 a0_2, .int .i64 a0_3, .int .i64 a0_4]) (t := 94) ?hr ?_;(case hd => rfl);(case hg => rfl);(case hr => first | (go_simp;done) | (go_simp;rfl));intro gb434 hg w14 hbox hb;have n0_ := am0 (below_step (by repeat (first | (with_reducible first | exact HB.out | apply below_alloc | apply pw_below_drewN | apply below_drew1) | exact HB.out)) hb);have n1_ := am0 (hbox);have n2_ := am0 ((by rw [hg];exact (below_size (by repeat (first | (with_reducible first | exact HB.out | apply below_alloc | apply pw_below_drewN | apply below_drew1) | exact HB.out))) : w.heap.size ≤ gb434));have n3_ := am0 ((by rw [hg];exact (below_size (by repeat (first | (with_reducible first | exact HB.out | apply below_alloc | apply pw_below_drewN | apply below_drew1) | exact HB.out))) : w.heap.size ≤ gb434));clear HB;have HB := n0_;have BK434 := n1_;have GW434 := n2_;have GE434 := n3_;clear n0_ n1_ n2_ n3_;clear hb hbox hg) | ((with_reducible refine gate_dst (N := 3) rfl ?_);refine box_event ?hg (N := 3) ?hd (cs := #[.int .i64 a1_0, .int .i64 a1_1, .int .u8 a1_2, .int .i64 a1_3, .int .i64 a1_4]) (t := 94) ?hr ?_;(case hd => rfl);(case hg => rfl);(case hr => first | (go_simp;done) | (go_simp;rfl));intro gb435 hg w15 hbox hb;have n0_ := am0 (blk_below (g := gb434) (o := .cells #[.int .i64 a0_0, .int .i64 a0_1, .int .u8 a0_2, .int .i64 a0_3, .int .i64 a0_4] 94 (0,0)) (by (with_reducible repeat (first | refine blk_drewN ?_ _ | refine blk_drew ?_ | refine blk_alloc ?_ _));exact BK434.out) hb);have n1_ := am0 (below_step (by repeat (first | (with_reducible first | exact HB.out | apply below_alloc | apply pw_below_drewN | apply below_drew1 | refine below_set ?_ GE434.out) | exact HB.out)) hb);have n2_ := am0 (hbox);have n3_ := am0 ((by rw [hg];exact (below_size (by repeat (first | (with_reducible first | exact HB.out | apply below_alloc | apply pw_below_drewN | apply below_drew1 | refine below_set ?_ GE434.out) | exact HB.out))) : w.heap.size ≤ gb435));have n4_ := am0 ((by rw [hg];exact (below_size (by repeat (first | (with_reducible first | exact HB.out | apply below_alloc | apply pw_below_drewN | apply below_drew1 | refine below_set ?_ GE434.out) | exact HB.out))) : w.heap.size ≤ gb435));have n5_ := am0 ((by rw [hg];exact Nat.ne_of_lt (blk_lt (g := gb434) (o := .cells #[.int .i64 a0_0, .int .i64 a0_1, .int .u8 a0_2, .int .i64 a0_3, .int .i64 a0_4] 94 (0,0)) (by (with_reducible repeat (first | refine blk_drewN ?_ _ | refine blk_drew ?_ | refine blk_alloc ?_ _));exact BK434.out)) : gb434 ≠ gb435));have n6_ := am0 ((by rw [hg];exact Nat.ne_of_gt (blk_lt (g := gb434) (o := .cells #[.int .i64 a0_0, .int .i64 a0_1, .int .u8 a0_2, .int .i64 a0_3, .int .i64 a0_4] 94 (0,0)) (by (with_reducible repeat (first | refine blk_drewN ?_ _ | refine blk_drew ?_ | refine blk_alloc ?_ _));exact BK434.out)) : gb435 ≠ gb434));clear BK434;clear HB;have BK434 := n0_;have HB := n1_;have BK435 := n2_;have GW435 := n3_;have GE435 := n4_;have NB434_435 := n5_;have NB435_434 := n6_;clear n0_ n1_ n2_ n3_ n4_ n5_ n6_;clear hb hbox hg;have hnb16 := NB434_435.out;have hnc16 := NB435_434.out;have hcz17_0 : w15.cell? ⟨gb434,0,none⟩ = some (.int .i64 a0_0) := (blk_cell BK434.out 0).trans rfl;have hcz17_1 : w15.cell? ⟨gb434,1,none⟩ = some (.int .i64 a0_1) := (blk_cell BK434.out 1).trans rfl;have hcz17_2 : w15.cell? ⟨gb434,2,none⟩ = some (.int .u8 a0_2) := (blk_cell BK434.out 2).trans rfl;have hcz17_3 : w15.cell? ⟨gb434,3,none⟩ = some (.int .i64 a0_3) := (blk_cell BK434.out 3).trans rfl;have hcz17_4 : w15.cell? ⟨gb434,4,none⟩ = some (.int .i64 a0_4) := (blk_cell BK434.out 4).trans rfl;have hfz17_0 := blk_frozen BK434.out 0;have hfz17_1 := blk_frozen BK434.out 1;have hfz17_2 := blk_frozen BK434.out 2;have hfz17_3 := blk_frozen BK434.out 3;have hfz17_4 := blk_frozen BK434.out 4) | ((with_reducible refine gate_callee (f := 65) rfl ?_);refine goesL_ (some 11) rfl rfl Tryd.func65 (by kernel_rfl) rfl #[.agg #[.int .i64 a0_0, .int .i64 a0_1, .int .u8 a0_2, .int .i64 a0_3, .int .i64 a0_4]] rfl (by (try simp only [List.map_toArray,List.map_cons,List.map_nil]);first | done | rfl | (simp only [List.length_drop,List.length_take];rfl)) ?_;(with_reducible refine (elfw_span.calls k a0_0 a0_1 a0_2 a0_3 a0_4 t436 t437 _ A3.out).mono ?_);rintro e w18 ⟨rfl,hb⟩;refine ⟨_,rfl, ?_⟩;have n0_ := am0 (blk_below (g := gb434) (o := .cells #[.int .i64 a0_0, .int .i64 a0_1, .int .u8 a0_2, .int .i64 a0_3, .int .i64 a0_4] 94 (0,0)) (by (with_reducible repeat (first | refine blk_drewN ?_ _ | refine blk_drew ?_ | refine blk_alloc ?_ _));exact BK434.out) hb);have n1_ := am0 (blk_below (g := gb435) (o := .cells #[.int .i64 a1_0, .int .i64 a1_1, .int .u8 a1_2, .int .i64 a1_3, .int .i64 a1_4] 94 (0,0)) (by (with_reducible repeat (first | refine blk_drewN ?_ _ | refine blk_drew ?_ | refine blk_alloc ?_ _));exact BK435.out) hb);have n2_ := am0 (below_step (by repeat (first | (with_reducible first | exact HB.out | apply below_alloc | apply pw_below_drewN | apply below_drew1 | refine below_set ?_ GE434.out | refine below_set ?_ GE435.out) | exact HB.out)) hb);clear BK434;clear BK435;clear HB;have BK434 := n0_;have BK435 := n1_;have HB := n2_;clear n0_ n1_ n2_;(try clear hb);(try clear hb2);(try clear hk);(try clear hi);have hcz19_0 : w18.cell? ⟨gb435,0,none⟩ = some (.int .i64 a1_0) := (blk_cell BK435.out 0).trans rfl;have hcz19_1 : w18.cell? ⟨gb435,1,none⟩ = some (.int .i64 a1_1) := (blk_cell BK435.out 1).trans rfl;have hcz19_2 : w18.cell? ⟨gb435,2,none⟩ = some (.int .u8 a1_2) := (blk_cell BK435.out 2).trans rfl;have hcz19_3 : w18.cell? ⟨gb435,3,none⟩ = some (.int .i64 a1_3) := (blk_cell BK435.out 3).trans rfl;have hcz19_4 : w18.cell? ⟨gb435,4,none⟩ = some (.int .i64 a1_4) := (blk_cell BK435.out 4).trans rfl;have hfz19_0 := blk_frozen BK435.out 0;have hfz19_1 := blk_frozen BK435.out 1;have hfz19_2 := blk_frozen BK435.out 2;have hfz19_3 := blk_frozen BK435.out 3;have hfz19_4 := blk_frozen BK435.out 4) | ((with_reducible refine gate_callee (f := 65) rfl ?_);refine goesL_ (some 16) rfl rfl Tryd.func65 (by kernel_rfl) rfl #[.agg #[.int .i64 a1_0, .int .i64 a1_1, .int .u8 a1_2, .int .i64 a1_3, .int .i64 a1_4]] rfl (by (try simp only [List.map_toArray,List.map_cons,List.map_nil]);first | done | rfl | (simp only [List.length_drop,List.length_take];rfl)) ?_;(with_reducible refine (elfw_span.calls k a1_0 a1_1 a1_2 a1_3 a1_4 t438 t439 _ A4.out).mono ?_);rintro e w20 ⟨rfl,hb⟩;refine ⟨_,rfl, ?_⟩;have n0_ := am0 (blk_below (g := gb434) (o := .cells #[.int .i64 a0_0, .int .i64 a0_1, .int .u8 a0_2, .int .i64 a0_3, .int .i64 a0_4] 94 (0,0)) (by (with_reducible repeat (first | refine blk_drewN ?_ _ | refine blk_drew ?_ | refine blk_alloc ?_ _));exact BK434.out) hb);have n1_ := am0 (blk_below (g := gb435) (o := .cells #[.int .i64 a1_0, .int .i64 a1_1, .int .u8 a1_2, .int .i64 a1_3, .int .i64 a1_4] 94 (0,0)) (by (with_reducible repeat (first | refine blk_drewN ?_ _ | refine blk_drew ?_ | refine blk_alloc ?_ _));exact BK435.out) hb);have n2_ := am0 (below_step (by repeat (first | (with_reducible first | exact HB.out | apply below_alloc | apply pw_below_drewN | apply below_drew1 | refine below_set ?_ GE434.out | refine below_set ?_ GE435.out) | exact HB.out)) hb);clear BK434;clear BK435;clear HB;have BK434 := n0_;have BK435 := n1_;have HB := n2_;clear n0_ n1_ n2_;(try clear hb);(try clear hb2);(try clear hk);(try clear hi)))
  go_ret
  exact ⟨by first | rfl | (simp [errW_none,errW_some] <;> rfl) | (simp [*,errW_none,errW_some] <;> rfl),by repeat (first | (with_reducible first | exact HB.out | apply below_alloc | apply pw_below_drewN | apply below_drew1 | refine below_set ?_ GE434.out | refine below_set ?_ GE435.out) | exact HB.out)⟩
 rw [if_neg c13] at H;have c13b0 : (t438 == t439) = false := beq_eq_false_iff_ne.mpr c13;have c13b1 : (t438 != t439) = true := bne_iff_ne.mpr c13
 by_cases c21 : t437 ≤ t438
 ·rw [if_pos c21] at H
  have c21b0 : decide (t437 ≤ t438) = true := decide_eq_true c21;clear c21;obtain rfl := Option.some.inj H;go_enter Tryd.func48,Tryd.ntmps48
  go_wp2_with (first | ((with_reducible refine gate_dst (N := 2) rfl ?_);refine box_event ?hg (N := 2) ?hd (cs := #[.int .i64 a0_0, .int .i64 a0_1, .int .u8 a0_2, .int .i64 a0_3, .int .i64 a0_4]) (t := 94) ?hr ?_;(case hd => rfl);(case hg => rfl);(case hr => first | (go_simp;done) | (go_simp;rfl));intro gb434 hg w22 hbox hb;have n0_ := am0 (below_step (by repeat (first | (with_reducible first | exact HB.out | apply below_alloc | apply pw_below_drewN | apply below_drew1) | exact HB.out)) hb);have n1_ := am0 (hbox);have n2_ := am0 ((by rw [hg];exact (below_size (by repeat (first | (with_reducible first | exact HB.out | apply below_alloc | apply pw_below_drewN | apply below_drew1) | exact HB.out))) : w.heap.size ≤ gb434));have n3_ := am0 ((by rw [hg];exact (below_size (by repeat (first | (with_reducible first | exact HB.out | apply below_alloc | apply pw_below_drewN | apply below_drew1) | exact HB.out))) : w.heap.size ≤ gb434));clear HB;have HB := n0_;have BK434 := n1_;have GW434 := n2_;have GE434 := n3_;clear n0_ n1_ n2_ n3_;clear hb hbox hg) | ((with_reducible refine gate_dst (N := 3) rfl ?_);refine box_event ?hg (N := 3) ?hd (cs := #[.int .i64 a1_0, .int .i64 a1_1, .int .u8 a1_2, .int .i64 a1_3, .int .i64 a1_4]) (t := 94) ?hr ?_;(case hd => rfl);(case hg => rfl);(case hr => first | (go_simp;done) | (go_simp;rfl));intro gb435 hg w23 hbox hb;have n0_ := am0 (blk_below (g := gb434) (o := .cells #[.int .i64 a0_0, .int .i64 a0_1, .int .u8 a0_2, .int .i64 a0_3, .int .i64 a0_4] 94 (0,0)) (by (with_reducible repeat (first | refine blk_drewN ?_ _ | refine blk_drew ?_ | refine blk_alloc ?_ _));exact BK434.out) hb);have n1_ := am0 (below_step (by repeat (first | (with_reducible first | exact HB.out | apply below_alloc | apply pw_below_drewN | apply below_drew1 | refine below_set ?_ GE434.out) | exact HB.out)) hb);have n2_ := am0 (hbox);have n3_ := am0 ((by rw [hg];exact (below_size (by repeat (first | (with_reducible first | exact HB.out | apply below_alloc | apply pw_below_drewN | apply below_drew1 | refine below_set ?_ GE434.out) | exact HB.out))) : w.heap.size ≤ gb435));have n4_ := am0 ((by rw [hg];exact (below_size (by repeat (first | (with_reducible first | exact HB.out | apply below_alloc | apply pw_below_drewN | apply below_drew1 | refine below_set ?_ GE434.out) | exact HB.out))) : w.heap.size ≤ gb435));have n5_ := am0 ((by rw [hg];exact Nat.ne_of_lt (blk_lt (g := gb434) (o := .cells #[.int .i64 a0_0, .int .i64 a0_1, .int .u8 a0_2, .int .i64 a0_3, .int .i64 a0_4] 94 (0,0)) (by (with_reducible repeat (first | refine blk_drewN ?_ _ | refine blk_drew ?_ | refine blk_alloc ?_ _));exact BK434.out)) : gb434 ≠ gb435));have n6_ := am0 ((by rw [hg];exact Nat.ne_of_gt (blk_lt (g := gb434) (o := .cells #[.int .i64 a0_0, .int .i64 a0_1, .int .u8 a0_2, .int .i64 a0_3, .int .i64 a0_4] 94 (0,0)) (by (with_reducible repeat (first | refine blk_drewN ?_ _ | refine blk_drew ?_ | refine blk_alloc ?_ _));exact BK434.out)) : gb435 ≠ gb434));clear BK434;clear HB;have BK434 := n0_;have HB := n1_;have BK435 := n2_;have GW435 := n3_;have GE435 := n4_;have NB434_435 := n5_;have NB435_434 := n6_;clear n0_ n1_ n2_ n3_ n4_ n5_ n6_;clear hb hbox hg;have hnb24 := NB434_435.out;have hnc24 := NB435_434.out;have hcz25_0 : w23.cell? ⟨gb434,0,none⟩ = some (.int .i64 a0_0) := (blk_cell BK434.out 0).trans rfl;have hcz25_1 : w23.cell? ⟨gb434,1,none⟩ = some (.int .i64 a0_1) := (blk_cell BK434.out 1).trans rfl;have hcz25_2 : w23.cell? ⟨gb434,2,none⟩ = some (.int .u8 a0_2) := (blk_cell BK434.out 2).trans rfl;have hcz25_3 : w23.cell? ⟨gb434,3,none⟩ = some (.int .i64 a0_3) := (blk_cell BK434.out 3).trans rfl;have hcz25_4 : w23.cell? ⟨gb434,4,none⟩ = some (.int .i64 a0_4) := (blk_cell BK434.out 4).trans rfl;have hfz25_0 := blk_frozen BK434.out 0;have hfz25_1 := blk_frozen BK434.out 1;have hfz25_2 := blk_frozen BK434.out 2;have hfz25_3 := blk_frozen BK434.out 3;have hfz25_4 := blk_frozen BK434.out 4) | ((with_reducible refine gate_callee (f := 65) rfl ?_);refine goesL_ (some 11) rfl rfl Tryd.func65 (by kernel_rfl) rfl #[.agg #[.int .i64 a0_0, .int .i64 a0_1, .int .u8 a0_2, .int .i64 a0_3, .int .i64 a0_4]] rfl (by (try simp only [List.map_toArray,List.map_cons,List.map_nil]);first | done | rfl | (simp only [List.length_drop,List.length_take];rfl)) ?_;(with_reducible refine (elfw_span.calls k a0_0 a0_1 a0_2 a0_3 a0_4 t436 t437 _ A3.out).mono ?_);rintro e w26 ⟨rfl,hb⟩;refine ⟨_,rfl, ?_⟩;have n0_ := am0 (blk_below (g := gb434) (o := .cells #[.int .i64 a0_0, .int .i64 a0_1, .int .u8 a0_2, .int .i64 a0_3, .int .i64 a0_4] 94 (0,0)) (by (with_reducible repeat (first | refine blk_drewN ?_ _ | refine blk_drew ?_ | refine blk_alloc ?_ _));exact BK434.out) hb);have n1_ := am0 (blk_below (g := gb435) (o := .cells #[.int .i64 a1_0, .int .i64 a1_1, .int .u8 a1_2, .int .i64 a1_3, .int .i64 a1_4] 94 (0,0)) (by (with_reducible repeat (first | refine blk_drewN ?_ _ | refine blk_drew ?_ | refine blk_alloc ?_ _));exact BK435.out) hb);have n2_ := am0 (below_step (by repeat (first | (with_reducible first | exact HB.out | apply below_alloc | apply pw_below_drewN | apply below_drew1 | refine below_set ?_ GE434.out | refine below_set ?_ GE435.out) | exact HB.out)) hb);clear BK434;clear BK435;clear HB;have BK434 := n0_;have BK435 := n1_;have HB := n2_;clear n0_ n1_ n2_;(try clear hb);(try clear hb2);(try clear hk);(try clear hi);have hcz27_0 : w26.cell? ⟨gb435,0,none⟩ = some (.int .i64 a1_0) := (blk_cell BK435.out 0).trans rfl;have hcz27_1 : w26.cell? ⟨gb435,1,none⟩ = some (.int .i64 a1_1) := (blk_cell BK435.out 1).trans rfl;have hcz27_2 : w26.cell? ⟨gb435,2,none⟩ = some (.int .u8 a1_2) := (blk_cell BK435.out 2).trans rfl;have hcz27_3 : w26.cell? ⟨gb435,3,none⟩ = some (.int .i64 a1_3) := (blk_cell BK435.out 3).trans rfl;have hcz27_4 : w26.cell? ⟨gb435,4,none⟩ = some (.int .i64 a1_4) := (blk_cell BK435.out 4).trans rfl;have hfz27_0 := blk_frozen BK435.out 0;have hfz27_1 := blk_frozen BK435.out 1;have hfz27_2 := blk_frozen BK435.out 2;have hfz27_3 := blk_frozen BK435.out 3;have hfz27_4 := blk_frozen BK435.out 4) | ((with_reducible refine gate_callee (f := 65) rfl ?_);refine goesL_ (some 16) rfl rfl Tryd.func65 (by kernel_rfl) rfl #[.agg #[.int .i64 a1_0, .int .i64 a1_1, .int .u8 a1_2, .int .i64 a1_3, .int .i64 a1_4]] rfl (by (try simp only [List.map_toArray,List.map_cons,List.map_nil]);first | done | rfl | (simp only [List.length_drop,List.length_take];rfl)) ?_;(with_reducible refine (elfw_span.calls k a1_0 a1_1 a1_2 a1_3 a1_4 t438 t439 _ A4.out).mono ?_);rintro e w28 ⟨rfl,hb⟩;refine ⟨_,rfl, ?_⟩;have n0_ := am0 (blk_below (g := gb434) (o := .cells #[.int .i64 a0_0, .int .i64 a0_1, .int .u8 a0_2, .int .i64 a0_3, .int .i64 a0_4] 94 (0,0)) (by (with_reducible repeat (first | refine blk_drewN ?_ _ | refine blk_drew ?_ | refine blk_alloc ?_ _));exact BK434.out) hb);have n1_ := am0 (blk_below (g := gb435) (o := .cells #[.int .i64 a1_0, .int .i64 a1_1, .int .u8 a1_2, .int .i64 a1_3, .int .i64 a1_4] 94 (0,0)) (by (with_reducible repeat (first | refine blk_drewN ?_ _ | refine blk_drew ?_ | refine blk_alloc ?_ _));exact BK435.out) hb);have n2_ := am0 (below_step (by repeat (first | (with_reducible first | exact HB.out | apply below_alloc | apply pw_below_drewN | apply below_drew1 | refine below_set ?_ GE434.out | refine below_set ?_ GE435.out) | exact HB.out)) hb);clear BK434;clear BK435;clear HB;have BK434 := n0_;have BK435 := n1_;have HB := n2_;clear n0_ n1_ n2_;(try clear hb);(try clear hb2);(try clear hk);(try clear hi)))
  go_ret
  exact ⟨by first | rfl | (simp [errW_none,errW_some] <;> rfl) | (simp [*,errW_none,errW_some] <;> rfl),by repeat (first | (with_reducible first | exact HB.out | apply below_alloc | apply pw_below_drewN | apply below_drew1 | refine below_set ?_ GE434.out | refine below_set ?_ GE435.out) | exact HB.out)⟩
 rw [if_neg c21] at H;have c21b0 : decide (t437 ≤ t438) = false := decide_eq_false c21;clear c21
 by_cases c29 : t439 ≤ t436
 ·rw [if_pos c29] at H
  have c29b0 : decide (t439 ≤ t436) = true := decide_eq_true c29;clear c29;obtain rfl := Option.some.inj H;go_enter Tryd.func48,Tryd.ntmps48
  go_wp2_with (first | ((with_reducible refine gate_dst (N := 2) rfl ?_);refine box_event ?hg (N := 2) ?hd (cs := #[.int .i64 a0_0, .int .i64 a0_1, .int .u8 a0_2, .int .i64 a0_3, .int .i64 a0_4]) (t := 94) ?hr ?_;(case hd => rfl);(case hg => rfl);(case hr => first | (go_simp;done) | (go_simp;rfl));intro gb434 hg w30 hbox hb;have n0_ := am0 (below_step (by repeat (first | (with_reducible first | exact HB.out | apply below_alloc | apply pw_below_drewN | apply below_drew1) | exact HB.out)) hb);have n1_ := am0 (hbox);have n2_ := am0 ((by rw [hg];exact (below_size (by repeat (first | (with_reducible first | exact HB.out | apply below_alloc | apply pw_below_drewN | apply below_drew1) | exact HB.out))) : w.heap.size ≤ gb434));have n3_ := am0 ((by rw [hg];exact (below_size (by repeat (first | (with_reducible first | exact HB.out | apply below_alloc | apply pw_below_drewN | apply below_drew1) | exact HB.out))) : w.heap.size ≤ gb434));clear HB;have HB := n0_;have BK434 := n1_;have GW434 := n2_;have GE434 := n3_;clear n0_ n1_ n2_ n3_;clear hb hbox hg) | ((with_reducible refine gate_dst (N := 3) rfl ?_);refine box_event ?hg (N := 3) ?hd (cs := #[.int .i64 a1_0, .int .i64 a1_1, .int .u8 a1_2, .int .i64 a1_3, .int .i64 a1_4]) (t := 94) ?hr ?_;(case hd => rfl);(case hg => rfl);(case hr => first | (go_simp;done) | (go_simp;rfl));intro gb435 hg w31 hbox hb;have n0_ := am0 (blk_below (g := gb434) (o := .cells #[.int .i64 a0_0, .int .i64 a0_1, .int .u8 a0_2, .int .i64 a0_3, .int .i64 a0_4] 94 (0,0)) (by (with_reducible repeat (first | refine blk_drewN ?_ _ | refine blk_drew ?_ | refine blk_alloc ?_ _));exact BK434.out) hb);have n1_ := am0 (below_step (by repeat (first | (with_reducible first | exact HB.out | apply below_alloc | apply pw_below_drewN | apply below_drew1 | refine below_set ?_ GE434.out) | exact HB.out)) hb);have n2_ := am0 (hbox);have n3_ := am0 ((by rw [hg];exact (below_size (by repeat (first | (with_reducible first | exact HB.out | apply below_alloc | apply pw_below_drewN | apply below_drew1 | refine below_set ?_ GE434.out) | exact HB.out))) : w.heap.size ≤ gb435));have n4_ := am0 ((by rw [hg];exact (below_size (by repeat (first | (with_reducible first | exact HB.out | apply below_alloc | apply pw_below_drewN | apply below_drew1 | refine below_set ?_ GE434.out) | exact HB.out))) : w.heap.size ≤ gb435));have n5_ := am0 ((by rw [hg];exact Nat.ne_of_lt (blk_lt (g := gb434) (o := .cells #[.int .i64 a0_0, .int .i64 a0_1, .int .u8 a0_2, .int .i64 a0_3, .int .i64 a0_4] 94 (0,0)) (by (with_reducible repeat (first | refine blk_drewN ?_ _ | refine blk_drew ?_ | refine blk_alloc ?_ _));exact BK434.out)) : gb434 ≠ gb435));have n6_ := am0 ((by rw [hg];exact Nat.ne_of_gt (blk_lt (g := gb434) (o := .cells #[.int .i64 a0_0, .int .i64 a0_1, .int .u8 a0_2, .int .i64 a0_3, .int .i64 a0_4] 94 (0,0)) (by (with_reducible repeat (first | refine blk_drewN ?_ _ | refine blk_drew ?_ | refine blk_alloc ?_ _));exact BK434.out)) : gb435 ≠ gb434));clear BK434;clear HB;have BK434 := n0_;have HB := n1_;have BK435 := n2_;have GW435 := n3_;have GE435 := n4_;have NB434_435 := n5_;have NB435_434 := n6_;clear n0_ n1_ n2_ n3_ n4_ n5_ n6_;clear hb hbox hg;have hnb32 := NB434_435.out;have hnc32 := NB435_434.out;have hcz33_0 : w31.cell? ⟨gb434,0,none⟩ = some (.int .i64 a0_0) := (blk_cell BK434.out 0).trans rfl;have hcz33_1 : w31.cell? ⟨gb434,1,none⟩ = some (.int .i64 a0_1) := (blk_cell BK434.out 1).trans rfl;have hcz33_2 : w31.cell? ⟨gb434,2,none⟩ = some (.int .u8 a0_2) := (blk_cell BK434.out 2).trans rfl;have hcz33_3 : w31.cell? ⟨gb434,3,none⟩ = some (.int .i64 a0_3) := (blk_cell BK434.out 3).trans rfl;have hcz33_4 : w31.cell? ⟨gb434,4,none⟩ = some (.int .i64 a0_4) := (blk_cell BK434.out 4).trans rfl;have hfz33_0 := blk_frozen BK434.out 0;have hfz33_1 := blk_frozen BK434.out 1;have hfz33_2 := blk_frozen BK434.out 2;have hfz33_3 := blk_frozen BK434.out 3;have hfz33_4 := blk_frozen BK434.out 4) | ((with_reducible refine gate_callee (f := 65) rfl ?_);refine goesL_ (some 11) rfl rfl Tryd.func65 (by kernel_rfl) rfl #[.agg #[.int .i64 a0_0, .int .i64 a0_1, .int .u8 a0_2, .int .i64 a0_3, .int .i64 a0_4]] rfl (by (try simp only [List.map_toArray,List.map_cons,List.map_nil]);first | done | rfl | (simp only [List.length_drop,List.length_take];rfl)) ?_;(with_reducible refine (elfw_span.calls k a0_0 a0_1 a0_2 a0_3 a0_4 t436 t437 _ A3.out).mono ?_);rintro e w34 ⟨rfl,hb⟩;refine ⟨_,rfl, ?_⟩;have n0_ := am0 (blk_below (g := gb434) (o := .cells #[.int .i64 a0_0, .int .i64 a0_1, .int .u8 a0_2, .int .i64 a0_3, .int .i64 a0_4] 94 (0,0)) (by (with_reducible repeat (first | refine blk_drewN ?_ _ | refine blk_drew ?_ | refine blk_alloc ?_ _));exact BK434.out) hb);have n1_ := am0 (blk_below (g := gb435) (o := .cells #[.int .i64 a1_0, .int .i64 a1_1, .int .u8 a1_2, .int .i64 a1_3, .int .i64 a1_4] 94 (0,0)) (by (with_reducible repeat (first | refine blk_drewN ?_ _ | refine blk_drew ?_ | refine blk_alloc ?_ _));exact BK435.out) hb);have n2_ := am0 (below_step (by repeat (first | (with_reducible first | exact HB.out | apply below_alloc | apply pw_below_drewN | apply below_drew1 | refine below_set ?_ GE434.out | refine below_set ?_ GE435.out) | exact HB.out)) hb);clear BK434;clear BK435;clear HB;have BK434 := n0_;have BK435 := n1_;have HB := n2_;clear n0_ n1_ n2_;(try clear hb);(try clear hb2);(try clear hk);(try clear hi);have hcz35_0 : w34.cell? ⟨gb435,0,none⟩ = some (.int .i64 a1_0) := (blk_cell BK435.out 0).trans rfl;have hcz35_1 : w34.cell? ⟨gb435,1,none⟩ = some (.int .i64 a1_1) := (blk_cell BK435.out 1).trans rfl;have hcz35_2 : w34.cell? ⟨gb435,2,none⟩ = some (.int .u8 a1_2) := (blk_cell BK435.out 2).trans rfl;have hcz35_3 : w34.cell? ⟨gb435,3,none⟩ = some (.int .i64 a1_3) := (blk_cell BK435.out 3).trans rfl;have hcz35_4 : w34.cell? ⟨gb435,4,none⟩ = some (.int .i64 a1_4) := (blk_cell BK435.out 4).trans rfl;have hfz35_0 := blk_frozen BK435.out 0;have hfz35_1 := blk_frozen BK435.out 1;have hfz35_2 := blk_frozen BK435.out 2;have hfz35_3 := blk_frozen BK435.out 3;have hfz35_4 := blk_frozen BK435.out 4) | ((with_reducible refine gate_callee (f := 65) rfl ?_);refine goesL_ (some 16) rfl rfl Tryd.func65 (by kernel_rfl) rfl #[.agg #[.int .i64 a1_0, .int .i64 a1_1, .int .u8 a1_2, .int .i64 a1_3, .int .i64 a1_4]] rfl (by (try simp only [List.map_toArray,List.map_cons,List.map_nil]);first | done | rfl | (simp only [List.length_drop,List.length_take];rfl)) ?_;(with_reducible refine (elfw_span.calls k a1_0 a1_1 a1_2 a1_3 a1_4 t438 t439 _ A4.out).mono ?_);rintro e w36 ⟨rfl,hb⟩;refine ⟨_,rfl, ?_⟩;have n0_ := am0 (blk_below (g := gb434) (o := .cells #[.int .i64 a0_0, .int .i64 a0_1, .int .u8 a0_2, .int .i64 a0_3, .int .i64 a0_4] 94 (0,0)) (by (with_reducible repeat (first | refine blk_drewN ?_ _ | refine blk_drew ?_ | refine blk_alloc ?_ _));exact BK434.out) hb);have n1_ := am0 (blk_below (g := gb435) (o := .cells #[.int .i64 a1_0, .int .i64 a1_1, .int .u8 a1_2, .int .i64 a1_3, .int .i64 a1_4] 94 (0,0)) (by (with_reducible repeat (first | refine blk_drewN ?_ _ | refine blk_drew ?_ | refine blk_alloc ?_ _));exact BK435.out) hb);have n2_ := am0 (below_step (by repeat (first | (with_reducible first | exact HB.out | apply below_alloc | apply pw_below_drewN | apply below_drew1 | refine below_set ?_ GE434.out | refine below_set ?_ GE435.out) | exact HB.out)) hb);clear BK434;clear BK435;clear HB;have BK434 := n0_;have BK435 := n1_;have HB := n2_;clear n0_ n1_ n2_;(try clear hb);(try clear hb2);(try clear hk);(try clear hi)))
  go_ret
  exact ⟨by first | rfl | (simp [errW_none,errW_some] <;> rfl) | (simp [*,errW_none,errW_some] <;> rfl),by repeat (first | (with_reducible first | exact HB.out | apply below_alloc | apply pw_below_drewN | apply below_drew1 | refine below_set ?_ GE434.out | refine below_set ?_ GE435.out) | exact HB.out)⟩
 rw [if_neg c29] at H;have c29b0 : decide (t439 ≤ t436) = false := decide_eq_false c29;clear c29
 by_cases c37 : t436 = t438
 ·rw [if_pos c37] at H
  have c37b0 : (t436 == t438) = true := beq_iff_eq.mpr c37;have c37b1 : (t436 != t438) = false := bne_eq_false_iff_eq.mpr c37;clear c37;replace H := Option.bind_eq_some_iff.mp H;obtain ⟨t440,A380,H⟩ := H;replace H : (some t440) = some r := H;have A38 := am0 A380;clear A380;obtain rfl := Option.some.inj H;go_enter Tryd.func48,Tryd.ntmps48
  go_wp2_with (first | ((with_reducible refine gate_dst (N := 2) rfl ?_);refine box_event ?hg (N := 2) ?hd (cs := #[.int .i64 a0_0, .int .i64 a0_1, .int .u8 a0_2, .int .i64 a0_3, .int .i64 a0_4]) (t := 94) ?hr ?_;(case hd => rfl);(case hg => rfl);(case hr => first | (go_simp;done) | (go_simp;rfl));intro gb434 hg w39 hbox hb;have n0_ := am0 (below_step (by repeat (first | (with_reducible first | exact HB.out | apply below_alloc | apply pw_below_drewN | apply below_drew1) | exact HB.out)) hb);have n1_ := am0 (hbox);have n2_ := am0 ((by rw [hg];exact (below_size (by repeat (first | (with_reducible first | exact HB.out | apply below_alloc | apply pw_below_drewN | apply below_drew1) | exact HB.out))) : w.heap.size ≤ gb434));have n3_ := am0 ((by rw [hg];exact (below_size (by repeat (first | (with_reducible first | exact HB.out | apply below_alloc | apply pw_below_drewN | apply below_drew1) | exact HB.out))) : w.heap.size ≤ gb434));clear HB;have HB := n0_;have BK434 := n1_;have GW434 := n2_;have GE434 := n3_;clear n0_ n1_ n2_ n3_;clear hb hbox hg) | ((with_reducible refine gate_dst (N := 3) rfl ?_);refine box_event ?hg (N := 3) ?hd (cs := #[.int .i64 a1_0, .int .i64 a1_1, .int .u8 a1_2, .int .i64 a1_3, .int .i64 a1_4]) (t := 94) ?hr ?_;(case hd => rfl);(case hg => rfl);(case hr => first | (go_simp;done) | (go_simp;rfl));intro gb435 hg w40 hbox hb;have n0_ := am0 (blk_below (g := gb434) (o := .cells #[.int .i64 a0_0, .int .i64 a0_1, .int .u8 a0_2, .int .i64 a0_3, .int .i64 a0_4] 94 (0,0)) (by (with_reducible repeat (first | refine blk_drewN ?_ _ | refine blk_drew ?_ | refine blk_alloc ?_ _));exact BK434.out) hb);have n1_ := am0 (below_step (by repeat (first | (with_reducible first | exact HB.out | apply below_alloc | apply pw_below_drewN | apply below_drew1 | refine below_set ?_ GE434.out) | exact HB.out)) hb);have n2_ := am0 (hbox);have n3_ := am0 ((by rw [hg];exact (below_size (by repeat (first | (with_reducible first | exact HB.out | apply below_alloc | apply pw_below_drewN | apply below_drew1 | refine below_set ?_ GE434.out) | exact HB.out))) : w.heap.size ≤ gb435));have n4_ := am0 ((by rw [hg];exact (below_size (by repeat (first | (with_reducible first | exact HB.out | apply below_alloc | apply pw_below_drewN | apply below_drew1 | refine below_set ?_ GE434.out) | exact HB.out))) : w.heap.size ≤ gb435));have n5_ := am0 ((by rw [hg];exact Nat.ne_of_lt (blk_lt (g := gb434) (o := .cells #[.int .i64 a0_0, .int .i64 a0_1, .int .u8 a0_2, .int .i64 a0_3, .int .i64 a0_4] 94 (0,0)) (by (with_reducible repeat (first | refine blk_drewN ?_ _ | refine blk_drew ?_ | refine blk_alloc ?_ _));exact BK434.out)) : gb434 ≠ gb435));have n6_ := am0 ((by rw [hg];exact Nat.ne_of_gt (blk_lt (g := gb434) (o := .cells #[.int .i64 a0_0, .int .i64 a0_1, .int .u8 a0_2, .int .i64 a0_3, .int .i64 a0_4] 94 (0,0)) (by (with_reducible repeat (first | refine blk_drewN ?_ _ | refine blk_drew ?_ | refine blk_alloc ?_ _));exact BK434.out)) : gb435 ≠ gb434));clear BK434;clear HB;have BK434 := n0_;have HB := n1_;have BK435 := n2_;have GW435 := n3_;have GE435 := n4_;have NB434_435 := n5_;have NB435_434 := n6_;clear n0_ n1_ n2_ n3_ n4_ n5_ n6_;clear hb hbox hg;have hnb41 := NB434_435.out;have hnc41 := NB435_434.out;have hcz42_0 : w40.cell? ⟨gb434,0,none⟩ = some (.int .i64 a0_0) := (blk_cell BK434.out 0).trans rfl;have hcz42_1 : w40.cell? ⟨gb434,1,none⟩ = some (.int .i64 a0_1) := (blk_cell BK434.out 1).trans rfl;have hcz42_2 : w40.cell? ⟨gb434,2,none⟩ = some (.int .u8 a0_2) := (blk_cell BK434.out 2).trans rfl;have hcz42_3 : w40.cell? ⟨gb434,3,none⟩ = some (.int .i64 a0_3) := (blk_cell BK434.out 3).trans rfl;have hcz42_4 : w40.cell? ⟨gb434,4,none⟩ = some (.int .i64 a0_4) := (blk_cell BK434.out 4).trans rfl;have hfz42_0 := blk_frozen BK434.out 0;have hfz42_1 := blk_frozen BK434.out 1;have hfz42_2 := blk_frozen BK434.out 2;have hfz42_3 := blk_frozen BK434.out 3;have hfz42_4 := blk_frozen BK434.out 4) | ((with_reducible refine gate_callee (f := 65) rfl ?_);refine goesL_ (some 11) rfl rfl Tryd.func65 (by kernel_rfl) rfl #[.agg #[.int .i64 a0_0, .int .i64 a0_1, .int .u8 a0_2, .int .i64 a0_3, .int .i64 a0_4]] rfl (by (try simp only [List.map_toArray,List.map_cons,List.map_nil]);first | done | rfl | (simp only [List.length_drop,List.length_take];rfl)) ?_;(with_reducible refine (elfw_span.calls k a0_0 a0_1 a0_2 a0_3 a0_4 t436 t437 _ A3.out).mono ?_);rintro e w43 ⟨rfl,hb⟩;refine ⟨_,rfl, ?_⟩;have n0_ := am0 (blk_below (g := gb434) (o := .cells #[.int .i64 a0_0, .int .i64 a0_1, .int .u8 a0_2, .int .i64 a0_3, .int .i64 a0_4] 94 (0,0)) (by (with_reducible repeat (first | refine blk_drewN ?_ _ | refine blk_drew ?_ | refine blk_alloc ?_ _));exact BK434.out) hb);have n1_ := am0 (blk_below (g := gb435) (o := .cells #[.int .i64 a1_0, .int .i64 a1_1, .int .u8 a1_2, .int .i64 a1_3, .int .i64 a1_4] 94 (0,0)) (by (with_reducible repeat (first | refine blk_drewN ?_ _ | refine blk_drew ?_ | refine blk_alloc ?_ _));exact BK435.out) hb);have n2_ := am0 (below_step (by repeat (first | (with_reducible first | exact HB.out | apply below_alloc | apply pw_below_drewN | apply below_drew1 | refine below_set ?_ GE434.out | refine below_set ?_ GE435.out) | exact HB.out)) hb);clear BK434;clear BK435;clear HB;have BK434 := n0_;have BK435 := n1_;have HB := n2_;clear n0_ n1_ n2_;(try clear hb);(try clear hb2);(try clear hk);(try clear hi);have hcz44_0 : w43.cell? ⟨gb435,0,none⟩ = some (.int .i64 a1_0) := (blk_cell BK435.out 0).trans rfl;have hcz44_1 : w43.cell? ⟨gb435,1,none⟩ = some (.int .i64 a1_1) := (blk_cell BK435.out 1).trans rfl;have hcz44_2 : w43.cell? ⟨gb435,2,none⟩ = some (.int .u8 a1_2) := (blk_cell BK435.out 2).trans rfl;have hcz44_3 : w43.cell? ⟨gb435,3,none⟩ = some (.int .i64 a1_3) := (blk_cell BK435.out 3).trans rfl;have hcz44_4 : w43.cell? ⟨gb435,4,none⟩ = some (.int .i64 a1_4) := (blk_cell BK435.out 4).trans rfl;have hfz44_0 := blk_frozen BK435.out 0;have hfz44_1 := blk_frozen BK435.out 1;have hfz44_2 := blk_frozen BK435.out 2;have hfz44_3 := blk_frozen BK435.out 3;have hfz44_4 := blk_frozen BK435.out 4) | ((with_reducible refine gate_callee (f := 65) rfl ?_);refine goesL_ (some 16) rfl rfl Tryd.func65 (by kernel_rfl) rfl #[.agg #[.int .i64 a1_0, .int .i64 a1_1, .int .u8 a1_2, .int .i64 a1_3, .int .i64 a1_4]] rfl (by (try simp only [List.map_toArray,List.map_cons,List.map_nil]);first | done | rfl | (simp only [List.length_drop,List.length_take];rfl)) ?_;(with_reducible refine (elfw_span.calls k a1_0 a1_1 a1_2 a1_3 a1_4 t438 t439 _ A4.out).mono ?_);rintro e w45 ⟨rfl,hb⟩;refine ⟨_,rfl, ?_⟩;have n0_ := am0 (blk_below (g := gb434) (o := .cells #[.int .i64 a0_0, .int .i64 a0_1, .int .u8 a0_2, .int .i64 a0_3, .int .i64 a0_4] 94 (0,0)) (by (with_reducible repeat (first | refine blk_drewN ?_ _ | refine blk_drew ?_ | refine blk_alloc ?_ _));exact BK434.out) hb);have n1_ := am0 (blk_below (g := gb435) (o := .cells #[.int .i64 a1_0, .int .i64 a1_1, .int .u8 a1_2, .int .i64 a1_3, .int .i64 a1_4] 94 (0,0)) (by (with_reducible repeat (first | refine blk_drewN ?_ _ | refine blk_drew ?_ | refine blk_alloc ?_ _));exact BK435.out) hb);have n2_ := am0 (below_step (by repeat (first | (with_reducible first | exact HB.out | apply below_alloc | apply pw_below_drewN | apply below_drew1 | refine below_set ?_ GE434.out | refine below_set ?_ GE435.out) | exact HB.out)) hb);clear BK434;clear BK435;clear HB;have BK434 := n0_;have BK435 := n1_;have HB := n2_;clear n0_ n1_ n2_;(try clear hb);(try clear hb2);(try clear hk);(try clear hi);have hcz46_0 : w45.cell? ⟨gb434,0,none⟩ = some (.int .i64 a0_0) := (blk_cell BK434.out 0).trans rfl;have hcz46_1 : w45.cell? ⟨gb434,1,none⟩ = some (.int .i64 a0_1) := (blk_cell BK434.out 1).trans rfl;have hcz46_2 : w45.cell? ⟨gb434,2,none⟩ = some (.int .u8 a0_2) := (blk_cell BK434.out 2).trans rfl;have hcz46_3 : w45.cell? ⟨gb434,3,none⟩ = some (.int .i64 a0_3) := (blk_cell BK434.out 3).trans rfl;have hcz46_4 : w45.cell? ⟨gb434,4,none⟩ = some (.int .i64 a0_4) := (blk_cell BK434.out 4).trans rfl;have hfz46_0 := blk_frozen BK434.out 0;have hfz46_1 := blk_frozen BK434.out 1;have hfz46_2 := blk_frozen BK434.out 2;have hfz46_3 := blk_frozen BK434.out 3;have hfz46_4 := blk_frozen BK434.out 4;have hcz47_0 : w45.cell? ⟨gb435,0,none⟩ = some (.int .i64 a1_0) := (blk_cell BK435.out 0).trans rfl;have hcz47_1 : w45.cell? ⟨gb435,1,none⟩ = some (.int .i64 a1_1) := (blk_cell BK435.out 1).trans rfl;have hcz47_2 : w45.cell? ⟨gb435,2,none⟩ = some (.int .u8 a1_2) := (blk_cell BK435.out 2).trans rfl;have hcz47_3 : w45.cell? ⟨gb435,3,none⟩ = some (.int .i64 a1_3) := (blk_cell BK435.out 3).trans rfl;have hcz47_4 : w45.cell? ⟨gb435,4,none⟩ = some (.int .i64 a1_4) := (blk_cell BK435.out 4).trans rfl;have hfz47_0 := blk_frozen BK435.out 0;have hfz47_1 := blk_frozen BK435.out 1;have hfz47_2 := blk_frozen BK435.out 2;have hfz47_3 := blk_frozen BK435.out 3;have hfz47_4 := blk_frozen BK435.out 4) | (go_at_call 66;(with_reducible refine (elfw_sums.calls a0_0 a0_1 a0_2 a0_3 a0_4 a1_0 a1_1 a1_2 a1_3 a1_4 t440 _ A38.out).mono ?_);rintro e w48 ⟨rfl,hb⟩;have n0_ := am0 (blk_below (g := gb434) (o := .cells #[.int .i64 a0_0, .int .i64 a0_1, .int .u8 a0_2, .int .i64 a0_3, .int .i64 a0_4] 94 (0,0)) (by (with_reducible repeat (first | refine blk_drewN ?_ _ | refine blk_drew ?_ | refine blk_alloc ?_ _));exact BK434.out) hb);have n1_ := am0 (blk_below (g := gb435) (o := .cells #[.int .i64 a1_0, .int .i64 a1_1, .int .u8 a1_2, .int .i64 a1_3, .int .i64 a1_4] 94 (0,0)) (by (with_reducible repeat (first | refine blk_drewN ?_ _ | refine blk_drew ?_ | refine blk_alloc ?_ _));exact BK435.out) hb);have n2_ := am0 (below_step (by repeat (first | (with_reducible first | exact HB.out | apply below_alloc | apply pw_below_drewN | apply below_drew1 | refine below_set ?_ GE434.out | refine below_set ?_ GE435.out) | exact HB.out)) hb);clear BK434;clear BK435;clear HB;have BK434 := n0_;have BK435 := n1_;have HB := n2_;clear n0_ n1_ n2_;(try clear hb);(try clear hb2);(try clear hk);(try clear hi)))
  go_ret
  exact ⟨by first | rfl | (simp [errW_none,errW_some] <;> rfl) | (simp [*,errW_none,errW_some] <;> rfl),by repeat (first | (with_reducible first | exact HB.out | apply below_alloc | apply pw_below_drewN | apply below_drew1 | refine below_set ?_ GE434.out | refine below_set ?_ GE435.out) | exact HB.out)⟩
 rw [if_neg c37] at H;have c37b0 : (t436 == t438) = false := beq_eq_false_iff_ne.mpr c37;have c37b1 : (t436 != t438) = true := bne_iff_ne.mpr c37;obtain rfl := Option.some.inj H;go_enter Tryd.func48,Tryd.ntmps48
 go_wp2_with (first | ((with_reducible refine gate_dst (N := 2) rfl ?_);refine box_event ?hg (N := 2) ?hd (cs := #[.int .i64 a0_0, .int .i64 a0_1, .int .u8 a0_2, .int .i64 a0_3, .int .i64 a0_4]) (t := 94) ?hr ?_;(case hd => rfl);(case hg => rfl);(case hr => first | (go_simp;done) | (go_simp;rfl));intro gb434 hg w49 hbox hb;have n0_ := am0 (below_step (by repeat (first | (with_reducible first | exact HB.out | apply below_alloc | apply pw_below_drewN | apply below_drew1) | exact HB.out)) hb);have n1_ := am0 (hbox);have n2_ := am0 ((by rw [hg];exact (below_size (by repeat (first | (with_reducible first | exact HB.out | apply below_alloc | apply pw_below_drewN | apply below_drew1) | exact HB.out))) : w.heap.size ≤ gb434));have n3_ := am0 ((by rw [hg];exact (below_size (by repeat (first | (with_reducible first | exact HB.out | apply below_alloc | apply pw_below_drewN | apply below_drew1) | exact HB.out))) : w.heap.size ≤ gb434));clear HB;have HB := n0_;have BK434 := n1_;have GW434 := n2_;have GE434 := n3_;clear n0_ n1_ n2_ n3_;clear hb hbox hg) | ((with_reducible refine gate_dst (N := 3) rfl ?_);refine box_event ?hg (N := 3) ?hd (cs := #[.int .i64 a1_0, .int .i64 a1_1, .int .u8 a1_2, .int .i64 a1_3, .int .i64 a1_4]) (t := 94) ?hr ?_;(case hd => rfl);(case hg => rfl);(case hr => first | (go_simp;done) | (go_simp;rfl));intro gb435 hg w50 hbox hb;have n0_ := am0 (blk_below (g := gb434) (o := .cells #[.int .i64 a0_0, .int .i64 a0_1, .int .u8 a0_2, .int .i64 a0_3, .int .i64 a0_4] 94 (0,0)) (by (with_reducible repeat (first | refine blk_drewN ?_ _ | refine blk_drew ?_ | refine blk_alloc ?_ _));exact BK434.out) hb);have n1_ := am0 (below_step (by repeat (first | (with_reducible first | exact HB.out | apply below_alloc | apply pw_below_drewN | apply below_drew1 | refine below_set ?_ GE434.out) | exact HB.out)) hb);have n2_ := am0 (hbox);have n3_ := am0 ((by rw [hg];exact (below_size (by repeat (first | (with_reducible first | exact HB.out | apply below_alloc | apply pw_below_drewN | apply below_drew1 | refine below_set ?_ GE434.out) | exact HB.out))) : w.heap.size ≤ gb435));have n4_ := am0 ((by rw [hg];exact (below_size (by repeat (first | (with_reducible first | exact HB.out | apply below_alloc | apply pw_below_drewN | apply below_drew1 | refine below_set ?_ GE434.out) | exact HB.out))) : w.heap.size ≤ gb435));have n5_ := am0 ((by rw [hg];exact Nat.ne_of_lt (blk_lt (g := gb434) (o := .cells #[.int .i64 a0_0, .int .i64 a0_1, .int .u8 a0_2, .int .i64 a0_3, .int .i64 a0_4] 94 (0,0)) (by (with_reducible repeat (first | refine blk_drewN ?_ _ | refine blk_drew ?_ | refine blk_alloc ?_ _));exact BK434.out)) : gb434 ≠ gb435));have n6_ := am0 ((by rw [hg];exact Nat.ne_of_gt (blk_lt (g := gb434) (o := .cells #[.int .i64 a0_0, .int .i64 a0_1, .int .u8 a0_2, .int .i64 a0_3, .int .i64 a0_4] 94 (0,0)) (by (with_reducible repeat (first | refine blk_drewN ?_ _ | refine blk_drew ?_ | refine blk_alloc ?_ _));exact BK434.out)) : gb435 ≠ gb434));clear BK434;clear HB;have BK434 := n0_;have HB := n1_;have BK435 := n2_;have GW435 := n3_;have GE435 := n4_;have NB434_435 := n5_;have NB435_434 := n6_;clear n0_ n1_ n2_ n3_ n4_ n5_ n6_;clear hb hbox hg;have hnb51 := NB434_435.out;have hnc51 := NB435_434.out;have hcz52_0 : w50.cell? ⟨gb434,0,none⟩ = some (.int .i64 a0_0) := (blk_cell BK434.out 0).trans rfl;have hcz52_1 : w50.cell? ⟨gb434,1,none⟩ = some (.int .i64 a0_1) := (blk_cell BK434.out 1).trans rfl;have hcz52_2 : w50.cell? ⟨gb434,2,none⟩ = some (.int .u8 a0_2) := (blk_cell BK434.out 2).trans rfl;have hcz52_3 : w50.cell? ⟨gb434,3,none⟩ = some (.int .i64 a0_3) := (blk_cell BK434.out 3).trans rfl;have hcz52_4 : w50.cell? ⟨gb434,4,none⟩ = some (.int .i64 a0_4) := (blk_cell BK434.out 4).trans rfl;have hfz52_0 := blk_frozen BK434.out 0;have hfz52_1 := blk_frozen BK434.out 1;have hfz52_2 := blk_frozen BK434.out 2;have hfz52_3 := blk_frozen BK434.out 3;have hfz52_4 := blk_frozen BK434.out 4) | ((with_reducible refine gate_callee (f := 65) rfl ?_);refine goesL_ (some 11) rfl rfl Tryd.func65 (by kernel_rfl) rfl #[.agg #[.int .i64 a0_0, .int .i64 a0_1, .int .u8 a0_2, .int .i64 a0_3, .int .i64 a0_4]] rfl (by (try simp only [List.map_toArray,List.map_cons,List.map_nil]);first | done | rfl | (simp only [List.length_drop,List.length_take];rfl)) ?_;(with_reducible refine (elfw_span.calls k a0_0 a0_1 a0_2 a0_3 a0_4 t436 t437 _ A3.out).mono ?_);rintro e w53 ⟨rfl,hb⟩;refine ⟨_,rfl, ?_⟩;have n0_ := am0 (blk_below (g := gb434) (o := .cells #[.int .i64 a0_0, .int .i64 a0_1, .int .u8 a0_2, .int .i64 a0_3, .int .i64 a0_4] 94 (0,0)) (by (with_reducible repeat (first | refine blk_drewN ?_ _ | refine blk_drew ?_ | refine blk_alloc ?_ _));exact BK434.out) hb);have n1_ := am0 (blk_below (g := gb435) (o := .cells #[.int .i64 a1_0, .int .i64 a1_1, .int .u8 a1_2, .int .i64 a1_3, .int .i64 a1_4] 94 (0,0)) (by (with_reducible repeat (first | refine blk_drewN ?_ _ | refine blk_drew ?_ | refine blk_alloc ?_ _));exact BK435.out) hb);have n2_ := am0 (below_step (by repeat (first | (with_reducible first | exact HB.out | apply below_alloc | apply pw_below_drewN | apply below_drew1 | refine below_set ?_ GE434.out | refine below_set ?_ GE435.out) | exact HB.out)) hb);clear BK434;clear BK435;clear HB;have BK434 := n0_;have BK435 := n1_;have HB := n2_;clear n0_ n1_ n2_;(try clear hb);(try clear hb2);(try clear hk);(try clear hi);have hcz54_0 : w53.cell? ⟨gb435,0,none⟩ = some (.int .i64 a1_0) := (blk_cell BK435.out 0).trans rfl;have hcz54_1 : w53.cell? ⟨gb435,1,none⟩ = some (.int .i64 a1_1) := (blk_cell BK435.out 1).trans rfl;have hcz54_2 : w53.cell? ⟨gb435,2,none⟩ = some (.int .u8 a1_2) := (blk_cell BK435.out 2).trans rfl;have hcz54_3 : w53.cell? ⟨gb435,3,none⟩ = some (.int .i64 a1_3) := (blk_cell BK435.out 3).trans rfl;have hcz54_4 : w53.cell? ⟨gb435,4,none⟩ = some (.int .i64 a1_4) := (blk_cell BK435.out 4).trans rfl;have hfz54_0 := blk_frozen BK435.out 0;have hfz54_1 := blk_frozen BK435.out 1;have hfz54_2 := blk_frozen BK435.out 2;have hfz54_3 := blk_frozen BK435.out 3;have hfz54_4 := blk_frozen BK435.out 4) | ((with_reducible refine gate_callee (f := 65) rfl ?_);refine goesL_ (some 16) rfl rfl Tryd.func65 (by kernel_rfl) rfl #[.agg #[.int .i64 a1_0, .int .i64 a1_1, .int .u8 a1_2, .int .i64 a1_3, .int .i64 a1_4]] rfl (by (try simp only [List.map_toArray,List.map_cons,List.map_nil]);first | done | rfl | (simp only [List.length_drop,List.length_take];rfl)) ?_;(with_reducible refine (elfw_span.calls k a1_0 a1_1 a1_2 a1_3 a1_4 t438 t439 _ A4.out).mono ?_);rintro e w55 ⟨rfl,hb⟩;refine ⟨_,rfl, ?_⟩;have n0_ := am0 (blk_below (g := gb434) (o := .cells #[.int .i64 a0_0, .int .i64 a0_1, .int .u8 a0_2, .int .i64 a0_3, .int .i64 a0_4] 94 (0,0)) (by (with_reducible repeat (first | refine blk_drewN ?_ _ | refine blk_drew ?_ | refine blk_alloc ?_ _));exact BK434.out) hb);have n1_ := am0 (blk_below (g := gb435) (o := .cells #[.int .i64 a1_0, .int .i64 a1_1, .int .u8 a1_2, .int .i64 a1_3, .int .i64 a1_4] 94 (0,0)) (by (with_reducible repeat (first | refine blk_drewN ?_ _ | refine blk_drew ?_ | refine blk_alloc ?_ _));exact BK435.out) hb);have n2_ := am0 (below_step (by repeat (first | (with_reducible first | exact HB.out | apply below_alloc | apply pw_below_drewN | apply below_drew1 | refine below_set ?_ GE434.out | refine below_set ?_ GE435.out) | exact HB.out)) hb);clear BK434;clear BK435;clear HB;have BK434 := n0_;have BK435 := n1_;have HB := n2_;clear n0_ n1_ n2_;(try clear hb);(try clear hb2);(try clear hk);(try clear hi)))
 go_ret
 exact ⟨by first | rfl | (simp [errW_none,errW_some] <;> rfl) | (simp [*,errW_none,errW_some] <;> rfl),by repeat (first | (with_reducible first | exact HB.out | apply below_alloc | apply pw_below_drewN | apply below_drew1 | refine below_set ?_ GE434.out | refine below_set ?_ GE435.out) | exact HB.out)⟩
end Go.Proofs.YtalomolellcefaaDoor.Q
