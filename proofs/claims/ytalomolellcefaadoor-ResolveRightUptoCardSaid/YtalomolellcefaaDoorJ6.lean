/- What is proved here: steps on the way to the law (texts joined by a program: Q2, Q3, Q4, Q5, Q6, Q7, Alive, Q8, Q9, Great, Right, OpenM, OpenArg, RowRight). -/
import Derived.Test.YtalomolellcefaaDoorJ1
import Derived.Test.YtalomolellcefaaDoorJ2
import Derived.Test.YtalomolellcefaaDoorJ3
import Derived.Test.YtalomolellcefaaDoorJ4
import Derived.Test.YtalomolellcefaaDoorJ5
import Derived.KernelRfl
import Derived.Test.YtalomolellcefaaDoorRows
import Derived.Deep.Slices
import Derived.SizedLaws
import Derived.ChangeArms
import Derived.Test.YtalomolellcefaaDoorCards
import Derived.Test.YtalomolellcefaaDoorTie
import Derived.WalkKit
import Derived.ProofKit
import Derived.OpenShut
import Derived.ShutString
import Derived.ChangeOld
import Derived.Below
import Derived.Deep.DeepHandedRow
import Derived.Lib.LaidTab
set_option linter.unusedSimpArgs false
set_option linter.unusedVariables false
namespace Go.Proofs.YtalomolellcefaaDoor.Q
open Go.RowKit Go.Proofs.YtalomolellcefaaDoorW.PrintWords Go.Proofs.YtalomolellcefaaDoorW.PrintLast Go.Proofs.YtalomolellcefaaDoorW.PrintMore
attribute [local go_sem] max2_int min2_int max_two min_two
def quoinlaw23_stands.j0 : Nat → List (List (S43)) → Bool → Option (Int × Int × Bool)
 | 0,_,_ => none
 | k + 1,x4,x24 => if x24 = true then (some (0,0,false)) else (if 0 < (x4.length : Int) then (if 0 < ((rd_L19 x4 0).length : Int) then (some ((rd_T43 (rd_L19 x4 0) 0).f0,(rd_T43 (rd_L19 x4 0) 0).f1,true)) else (none)) else (none))
noncomputable def quoinlaw23_stands.f (k : Nat) (l0 : List (S38)) : Option (Int × Int × Bool) := (resolve_Bind.f l0).bind fun bt102 => (if bt102.2 = 0 then (if (bt102.1.length : Int) = 0 then (quoinlaw23_stands.j0 k bt102.1 true) else (if 0 < (bt102.1.length : Int) then (quoinlaw23_stands.j0 k bt102.1 (((rd_L19 bt102.1 0).length : Int) == 0)) else (none))) else (quoinlaw23_stands.j0 k bt102.1 true))
theorem quoinlaw23_stands.mono_l : ∀ k,(∀ y0 y1,LeO (quoinlaw23_stands.j0 k y0 y1) (quoinlaw23_stands.j0 (k + 1) y0 y1))
 | 0 => fun _ _ r h => by simp [quoinlaw23_stands.j0] at h
 | k + 1 => by
  have ih0 := quoinlaw23_stands.mono_l k;intro y0 y1;unfold quoinlaw23_stands.j0;repeat' first
  | (with_reducible exact ih0 _ _)
  | (with_reducible exact LeO.refl _)
  | (with_reducible exact LeO.none _)
  | (with_reducible refine LeO.ite ?_ ?_)
  | (with_reducible refine LeO.bind ?_ (fun _ => ?_))
  | exact ih0 _ _
  | exact LeO.none _
  | refine LeO.ite ?_ ?_
  | refine LeO.bind ?_ (fun _ => ?_)
theorem quoinlaw23_stands.mono : ∀ a0 k,LeO (quoinlaw23_stands.f k a0) (quoinlaw23_stands.f (k + 1) a0) := by
 intro a0 k;have ih0 := quoinlaw23_stands.mono_l k;unfold quoinlaw23_stands.f
 repeat' first
   | (with_reducible exact ih0 _ _)
   | (with_reducible exact LeO.refl _)
   | (with_reducible exact LeO.none _)
   | (with_reducible refine LeO.ite ?_ ?_)
   | (with_reducible refine LeO.bind ?_ (fun _ => ?_))
   | exact ih0 _ _
   | exact LeO.none _
   | refine LeO.ite ?_ ?_
   | refine LeO.bind ?_ (fun _ => ?_)
set_option maxHeartbeats 8000000 in
set_option maxRecDepth 100000 in
theorem quoinlaw23_stands.calls (k : Nat) (A0 : Option Addr) (c0 : Nat) (l0 : List (S38)) (r1 : Int) (r2 : Int) (r3 : Bool) (w : World) (hG : GlobOK w) (hr0 : Kd.C k38 w A0 l0.length l0) (hc0 : l0.length ≤ c0) (h : quoinlaw23_stands.f k l0 = some (r1,r2,r3)) :
  Calls Tryd.prog 12 #[.slice A0 l0.length c0] w fun e w' => e = .returned (.tuple #[.agg #[.int .i64 r1, .int .i64 r2], .bool r3]) ∧ Below w.heap.size w w' := by
 have hu43 := Tryd.underlying43;have HR0 := am0 hr0;have HC0 := am0 hc0;clear hr0 hc0;have HB := am0 (Below.refl w.heap.size w);have H : ((resolve_Bind.f l0).bind fun bt102 => (if bt102.2 = 0 then (if (bt102.1.length : Int) = 0 then (quoinlaw23_stands.j0 k bt102.1 true) else (if 0 < (bt102.1.length : Int) then (quoinlaw23_stands.j0 k bt102.1 (((rd_L19 bt102.1 0).length : Int) == 0)) else (none))) else (quoinlaw23_stands.j0 k bt102.1 true))) = some (r1,r2,r3) := h;clear h;replace H := Option.bind_eq_some_iff.mp H;obtain ⟨⟨t102,t103⟩,A20,H⟩ := H;replace H : (if t103 = 0 then (if (t102.length : Int) = 0 then (quoinlaw23_stands.j0 k t102 true) else (if 0 < (t102.length : Int) then (quoinlaw23_stands.j0 k t102 (((rd_L19 t102 0).length : Int) == 0)) else (none))) else (quoinlaw23_stands.j0 k t102 true)) = some (r1,r2,r3) := H;have A2 := am0 A20;clear A20;have HC3 := am0 H;clear H;go_enter Tryd.func12,Tryd.ntmps12
 go_upto_region 2 with (first | ((with_reducible refine gate_dst (N := 2) rfl ?_);(try (refine gate_guard (by rfl) ?_;dsimp only));refine box_event ?hg (N := 2) ?hd (cs := #[.int .i64 0, .int .i64 0]) (t := 43) ?hr ?_;(case hd => rfl);(case hg => rfl);(case hr => first | (go_simp;done) | (go_simp;rfl));intro gb101 hg w4 hbox hb;have n0_ := am0 (below_step (by repeat (first | (with_reducible first | exact HB.out | apply below_alloc | apply pw_below_drewN | apply below_drew1) | exact HB.out)) hb);have n1_ := am0 (hbox);have n2_ := am0 ((by rw [hg];exact (below_size (by repeat (first | (with_reducible first | exact HB.out | apply below_alloc | apply pw_below_drewN | apply below_drew1) | exact HB.out))) : w.heap.size ≤ gb101));have n3_ := am0 ((by rw [hg];exact (below_size (by repeat (first | (with_reducible first | exact HB.out | apply below_alloc | apply pw_below_drewN | apply below_drew1) | exact HB.out))) : w.heap.size ≤ gb101));clear HB;have HB := n0_;have BK101 := n1_;have GW101 := n2_;have GE101 := n3_;clear n0_ n1_ n2_ n3_;clear hb hbox hg) | ((with_reducible refine gate_callee (f := 10) rfl ?_);refine goesL_ (some 8) rfl rfl Tryd.func10 (by kernel_rfl) rfl #[.slice A0 l0.length c0] rfl (by (try simp only [List.map_toArray,List.map_cons,List.map_nil]);first | done | rfl | (simp only [List.length_drop,List.length_take];rfl)) ?_;(with_reducible refine (resolve_Bind.calls _ _ l0 t102 t103 _ ?side3 ?side1 ?side2 A2.out).mono ?_);(case side1 => repeat (first | exact (Kd.C_below HR0.out HB.out) | (with_reducible refine Kd.C_alloc ?_ _) | (with_reducible refine Kd.C_drewN ?_ _) | (with_reducible refine Kd.C_drew ?_)));(case side2 => exact HC0.out);(case side3 => exact GlobOK.below hG (by repeat (first | (with_reducible first | exact HB.out | apply below_alloc | apply pw_below_drewN | apply below_drew1 | refine below_set ?_ GE101.out) | exact HB.out)));rintro e w5 ⟨v104,rfl,ho0,hb⟩;refine ⟨_,rfl, ?_⟩;have n0_ := am0 (Kd.S_lower (Kd.S_newB ho0 (g := gb101) (o := .cells #[.int .i64 0, .int .i64 0] 43 (0,0)) (by (with_reducible repeat (first | refine blk_drewN ?_ _ | refine blk_drew ?_ | refine blk_alloc ?_ _));exact BK101.out)) (below_size (by repeat (first | (with_reducible first | exact HB.out | apply below_alloc | apply pw_below_drewN | apply below_drew1 | refine below_set ?_ GE101.out) | exact HB.out))));have n1_ := am0 (blk_below (g := gb101) (o := .cells #[.int .i64 0, .int .i64 0] 43 (0,0)) (by (with_reducible repeat (first | refine blk_drewN ?_ _ | refine blk_drew ?_ | refine blk_alloc ?_ _));exact BK101.out) hb);have n2_ := am0 (below_step (by repeat (first | (with_reducible first | exact HB.out | apply below_alloc | apply pw_below_drewN | apply below_drew1 | refine below_set ?_ GE101.out) | exact HB.out)) hb);clear BK101;clear HB;have HO105 := n0_;have BK101 := n1_;have HB := n2_;clear n0_ n1_ n2_;(try clear hb);(try clear hb2);(try clear hk);(try clear hi);(try clear ho0)))
 (try go_frame)
 go_cut [24] (fun v24 wc => ∃ (kq : Nat) (x24_2 : Bool),v24 = .bool x24_2 ∧ Aside0 (quoinlaw23_stands.j0 kq t102 x24_2 = some (r1,r2,r3)) ∧ Aside0 (kq ≤ k) ∧ Aside0 (Kd.S (Kd.slice 43 k43) 29 wc w.heap.size (fun k_ => k_ ≠ gb101) v104 t102) ∧ Aside0 (wc.heap[gb101]? = some (.cells #[.int .i64 0, .int .i64 0] 43 (0,0))) ∧ Aside0 (Below w.heap.size w wc))
 case first =>
  have H := HC3.out;clear HC3
  by_cases c6 : t103 = 0
  ·rw [if_pos c6] at H
   have c6b0 : (t103 == 0) = true := beq_iff_eq.mpr c6;have c6b1 : (t103 != 0) = false := bne_eq_false_iff_eq.mpr c6;clear c6
   (first | rw [c6b0] | (simp only [i64_w,i32_w];rw [c6b0]) | skip)
   by_cases c7 : (t102.length : Int) = 0
   ·rw [if_pos c7] at H
    have c7b0 : ((t102.length : Int) == 0) = true := beq_iff_eq.mpr c7;have c7b1 : ((t102.length : Int) != 0) = false := bne_eq_false_iff_eq.mpr c7;clear c7;have H' := am0 H;clear H;obtain ⟨Ao8,co8,eo8⟩ := Kd.S_slice HO105.out;subst eo8;go_wp2
    go_meet
    case rel => exact ⟨_,(true),(by first | rfl | (simp;done) | (simp [*];done)),H',⟨by first | omega | exact Nat.le_refl _⟩,⟨by (with_reducible repeat (first | apply Kd.S_alloc | apply Kd.S_drewN | apply Kd.S_drew));exact Kd.S_mono HO105.out (fun _ hk => hk.2)⟩,⟨by (with_reducible repeat (first | refine blk_drewN ?_ _ | refine blk_drew ?_ | refine blk_alloc ?_ _));exact BK101.out⟩,⟨by repeat (first | (with_reducible first | exact HB.out | apply below_alloc | apply pw_below_drewN | apply below_drew1 | refine below_set ?_ GE101.out) | exact HB.out)⟩⟩
   rw [if_neg c7] at H;have c7b0 : ((t102.length : Int) == 0) = false := beq_eq_false_iff_ne.mpr c7;have c7b1 : ((t102.length : Int) != 0) = true := bne_iff_ne.mpr c7;have c7b2 : ¬ (t102 = []) := fun h_ => c7 (by rw [h_];rfl)
   by_cases c9 : 0 < (t102.length : Int)
   ·rw [if_pos c9] at H
    have c9b0 : decide (0 < (t102.length : Int)) = true := decide_eq_true c9;have c9b1 : decide (0 < t102.length) = true := decide_eq_true (by omega);clear c9;have H' := am0 H;clear H;obtain ⟨Ao10,co10,eo10⟩ := Kd.S_slice HO105.out;subst eo10;have p106 : 0 ≤ (0 : Int) := (by omega);have q106 : 0 < (t102.length : Int) := of_decide_eq_true (by first | (with_reducible assumption) | assumption);obtain ⟨ad106,A106_0,c106_0,e106,hx106_0,hl106_0,hi106_0⟩ := at_L19 (Kd.S_reads' HO105.out).2.2 0 p106 q106;cases e106;obtain ⟨ce106,hce106,hMe106,hcc106⟩ := Kd.S_get HO105.out [] 0 p106 (by first | exact q106 | exact of_decide_eq_true (by first | (with_reducible assumption) | assumption) | (have e_ := (Kd.S_reads' HO105.out).1;omega));obtain ⟨ve106_0,rfl,ge106_0⟩ := hMe106;have hv106_0 := hcc106 0 _ rfl;rw [Nat.add_zero,show ((Kd.slice 43 k43)).sz = 1 from rfl,Nat.mul_one] at hv106_0;replace hv106_0 := Option.some.inj (hv106_0.symm.trans hx106_0);rw [hv106_0] at ge106_0;have HL106_0 := am0 (show Kd.R k43 43 _ _ _ _ (rd_L19 t102 0) from ge106_0);clear hv106_0 ge106_0;clear hcc106 hce106;have qi106 : (0 < t102.length) = True := eq_true (by omega)
    (try rw [show ((0 : Int)).toNat = 0 from rfl] at hx106_0)
    (try rw [Addr.add_zero'] at hx106_0)
    have HR106_0 := am0 hi106_0;have HC106_0 := am0 hl106_0;clear hi106_0 hl106_0;replace p106 := eq_true p106;replace q106 := eq_true q106;go_wp2
    go_meet
    case rel => exact ⟨_,((((rd_L19 t102 0).length : Int) == 0)),(by first | rfl | (simp;done) | (simp [*];done)),H',⟨by first | omega | exact Nat.le_refl _⟩,⟨by (with_reducible repeat (first | apply Kd.S_alloc | apply Kd.S_drewN | apply Kd.S_drew));exact Kd.S_mono HO105.out (fun _ hk => hk.2)⟩,⟨by (with_reducible repeat (first | refine blk_drewN ?_ _ | refine blk_drew ?_ | refine blk_alloc ?_ _));exact BK101.out⟩,⟨by repeat (first | (with_reducible first | exact HB.out | apply below_alloc | apply pw_below_drewN | apply below_drew1 | refine below_set ?_ GE101.out) | exact HB.out)⟩⟩
   rw [if_neg c9] at H;exact absurd H (by simp)
  rw [if_neg c6] at H;have c6b0 : (t103 == 0) = false := beq_eq_false_iff_ne.mpr c6;have c6b1 : (t103 != 0) = true := bne_iff_ne.mpr c6
  (first | rw [c6b0] | (simp only [i64_w,i32_w];rw [c6b0]) | skip)
  have H' := am0 H;clear H;go_wp2
  go_meet
  case rel => exact ⟨_,(true),(by first | rfl | (simp;done) | (simp [*];done)),H',⟨by first | omega | exact Nat.le_refl _⟩,⟨by (with_reducible repeat (first | apply Kd.S_alloc | apply Kd.S_drewN | apply Kd.S_drew));exact Kd.S_mono HO105.out (fun _ hk => hk.2)⟩,⟨by (with_reducible repeat (first | refine blk_drewN ?_ _ | refine blk_drew ?_ | refine blk_alloc ?_ _));exact BK101.out⟩,⟨by repeat (first | (with_reducible first | exact HB.out | apply below_alloc | apply pw_below_drewN | apply below_drew1 | refine below_set ?_ GE101.out) | exact HB.out)⟩⟩
 case rest =>
  clear HC3;try clear c1
  try clear p1
  try clear q1
  try clear hx1
  try clear qi1
  try clear p2
  try clear c6
  try clear c6b0
  try clear c6b1
  try clear c7
  try clear c7b0
  try clear c7b1
  try clear c7b2
  try clear c9
  try clear c9b0
  try clear c9b1
  try clear c10
  try clear p10
  try clear q10
  try clear hx10
  try clear qi10
  try clear hx106_0
  try clear p106
  try clear q106
  obtain ⟨kq,x24_2,rfl,HA,HJ2,HO_4,BK101,HB⟩ := hcut
  cases kq with
  | zero => exact absurd HA.out (by simp [quoinlaw23_stands.j0])
  | succ kj2 =>
   have H := HA.out;clear HA;simp only [quoinlaw23_stands.j0] at H
   by_cases c11 : x24_2 = true
   ·subst c11
    have H1 : (some (0,0,false)) = some (r1,r2,r3) := by rw [if_pos rfl] at H;exact H
    clear H;have H := H1;clear H1;simp only [Option.some.injEq,Prod.mk.injEq] at H;obtain ⟨rfl,rfl,rfl⟩ := H;have hcz12_0 : wc.cell? ⟨gb101,0,none⟩ = some (.int .i64 0) := (blk_cell BK101.out 0).trans rfl;have hcz12_1 : wc.cell? ⟨gb101,1,none⟩ = some (.int .i64 0) := (blk_cell BK101.out 1).trans rfl;have hfz12_0 := blk_frozen BK101.out 0;have hfz12_1 := blk_frozen BK101.out 1;go_wp2
    refine bodyPost_ret (results_ct rfl _ _ gb101 43 #[.int .i64 0, .int .i64 0] (0,0) _ rfl (by (with_reducible repeat (first | refine blk_drewN ?_ _ | refine blk_drew ?_ | refine blk_alloc ?_ _));refine blk_put (cs := #[.int .i64 0, .int .i64 0]) ?_ 1 _ rfl;(with_reducible repeat (first | refine blk_drewN ?_ _ | refine blk_drew ?_ | refine blk_alloc ?_ _));refine blk_put (cs := #[.int .i64 0, .int .i64 0]) ?_ 0 _ rfl;(with_reducible repeat (first | refine blk_drewN ?_ _ | refine blk_drew ?_ | refine blk_alloc ?_ _));exact BK101.out) Tryd.underlying43 rfl (by kernel_rfl)) rfl ?_;exact ⟨by first | rfl | (simp [errW_none,errW_some] <;> rfl) | (simp [*,errW_none,errW_some] <;> rfl),by repeat (first | (with_reducible first | exact HB.out | apply below_alloc | apply pw_below_drewN | apply below_drew1 | refine below_set ?_ GE101.out) | exact HB.out)⟩
   replace c11 := Bool.eq_false_iff.mpr c11;subst c11;have H1 : (if 0 < (t102.length : Int) then (if 0 < ((rd_L19 t102 0).length : Int) then (some ((rd_T43 (rd_L19 t102 0) 0).f0,(rd_T43 (rd_L19 t102 0) 0).f1,true)) else (none)) else (none)) = some (r1,r2,r3) := by rw [if_neg (show ¬ (false = true) by decide)] at H;exact H
   clear H;have H := H1;clear H1
   by_cases c13 : 0 < (t102.length : Int)
   ·rw [if_pos c13] at H
    have c13b0 : decide (0 < (t102.length : Int)) = true := decide_eq_true c13;have c13b1 : decide (0 < t102.length) = true := decide_eq_true (by omega);clear c13
    by_cases c14 : 0 < ((rd_L19 t102 0).length : Int)
    ·rw [if_pos c14] at H
     have c14b0 : decide (0 < ((rd_L19 t102 0).length : Int)) = true := decide_eq_true c14;have c14b1 : decide (0 < (rd_L19 t102 0).length) = true := decide_eq_true (by omega);clear c14;simp only [Option.some.injEq,Prod.mk.injEq] at H;obtain ⟨rfl,rfl,rfl⟩ := H;obtain ⟨Ao15,co15,eo15⟩ := Kd.S_slice HO_4.out;subst eo15;have p107 : 0 ≤ (0 : Int) := (by omega);have q107 : 0 < (t102.length : Int) := of_decide_eq_true (by first | (with_reducible assumption) | assumption);obtain ⟨ad107,A107_0,c107_0,e107,hx107_0,hl107_0,hi107_0⟩ := at_L19 (Kd.S_reads' HO_4.out).2.2 0 p107 q107;cases e107;obtain ⟨ce107,hce107,hMe107,hcc107⟩ := Kd.S_get HO_4.out [] 0 p107 (by first | exact q107 | exact of_decide_eq_true (by first | (with_reducible assumption) | assumption) | (have e_ := (Kd.S_reads' HO_4.out).1;omega));obtain ⟨ve107_0,rfl,ge107_0⟩ := hMe107;have hv107_0 := hcc107 0 _ rfl;rw [Nat.add_zero,show ((Kd.slice 43 k43)).sz = 1 from rfl,Nat.mul_one] at hv107_0;replace hv107_0 := Option.some.inj (hv107_0.symm.trans hx107_0);rw [hv107_0] at ge107_0;have HL107_0 := am0 (show Kd.R k43 43 _ _ _ _ (rd_L19 t102 0) from ge107_0);clear hv107_0 ge107_0;clear hcc107 hce107;have qi107 : (0 < t102.length) = True := eq_true (by omega)
     (try rw [show ((0 : Int)).toNat = 0 from rfl] at hx107_0)
     (try rw [Addr.add_zero'] at hx107_0)
     have HR107_0 := am0 hi107_0;have HC107_0 := am0 hl107_0;clear hi107_0 hl107_0;replace p107 := eq_true p107;replace q107 := eq_true q107;have p108 : 0 ≤ (0 : Int) := (by omega);have q108 : 0 < ((rd_L19 t102 0).length : Int) := of_decide_eq_true (by first | (with_reducible assumption) | assumption);obtain ⟨ad108,e108,hx108_0,hx108_1⟩ := at_T43 (by repeat (first | (with_reducible exact HR107_0.out) | (with_reducible refine Kd.C_alloc ?_ _) | (with_reducible refine Kd.C_drewN ?_ _) | (with_reducible refine Kd.C_drew ?_) | exact HR107_0.out)) 0 p108 q108;cases e108;have qi108 : (0 < (rd_L19 t102 0).length) = True := eq_true (by omega)
     (try rw [show ((0 : Int)).toNat = 0 from rfl] at hx108_0)
     (try rw [show 0 * 2 = 0 from rfl] at hx108_0)
     (try rw [Addr.add_zero'] at hx108_0)
     (try rw [show ((0 : Int)).toNat = 0 from rfl] at hx108_1)
     (try rw [show 0 * 2 = 0 from rfl] at hx108_1)
     (try rw [Addr.add_zero'] at hx108_1)
     replace p108 := eq_true p108;replace q108 := eq_true q108;have hcz16_0 : wc.cell? ⟨gb101,0,none⟩ = some (.int .i64 0) := (blk_cell BK101.out 0).trans rfl;have hcz16_1 : wc.cell? ⟨gb101,1,none⟩ = some (.int .i64 0) := (blk_cell BK101.out 1).trans rfl;have hfz16_0 := blk_frozen BK101.out 0;have hfz16_1 := blk_frozen BK101.out 1;go_wp2
     refine bodyPost_ret (results_ct rfl _ _ gb101 43 #[.int .i64 ((rd_T43 (rd_L19 t102 0) 0).f0), .int .i64 ((rd_T43 (rd_L19 t102 0) 0).f1)] (0,0) _ rfl (by (with_reducible repeat (first | refine blk_drewN ?_ _ | refine blk_drew ?_ | refine blk_alloc ?_ _));refine blk_put (cs := #[.int .i64 ((rd_T43 (rd_L19 t102 0) 0).f0), .int .i64 0]) ?_ 1 _ rfl;(with_reducible repeat (first | refine blk_drewN ?_ _ | refine blk_drew ?_ | refine blk_alloc ?_ _));refine blk_put (cs := #[.int .i64 0, .int .i64 0]) ?_ 0 _ rfl;(with_reducible repeat (first | refine blk_drewN ?_ _ | refine blk_drew ?_ | refine blk_alloc ?_ _));exact BK101.out) Tryd.underlying43 rfl (by kernel_rfl)) rfl ?_;exact ⟨by first | rfl | (simp [errW_none,errW_some] <;> rfl) | (simp [*,errW_none,errW_some] <;> rfl),by repeat (first | (with_reducible first | exact HB.out | apply below_alloc | apply pw_below_drewN | apply below_drew1 | refine below_set ?_ GE101.out) | exact HB.out)⟩
    rw [if_neg c14] at H;exact absurd H (by simp)
   rw [if_neg c13] at H;exact absurd H (by simp)
def quoinlaw23_kept.l0 : Nat → List (S40) → List (S38) → Int → Option ((List (S38)) × (List (S40)))
 | 0,_,_,_ => none
 | k + 1,x0,x3,x4 => if x4 < (x0.length : Int) then (if 0 ≤ x4 then ((some (x0.set (x4 : Int).toNat (⟨(⟨#[102]⟩ : ByteArray),(rd_T40 x0 x4).f1,(rd_T40 x0 x4).f2,(rd_T40 x0 x4).f3,(rd_T40 x0 x4).f4,(rd_T40 x0 x4).f5⟩ : S40) : List (S40))).bind fun y109 => (if x3.length < 1034834473200 then (quoinlaw23_kept.l0 k y109 (x3 ++ [(⟨x4,(-1),(⟨([] : List (S72)),(([(⟨(rd_T40 y109 x4).f0,(rd_T40 y109 x4).f1,(rd_T40 y109 x4).f2,(rd_T40 y109 x4).f3,(rd_T40 y109 x4).f4,(rd_T40 y109 x4).f5⟩ : S40)] : List (S40))),([] : List (S94)),([] : List (S68))⟩ : S35),([] : List Bool)⟩ : S38)]) (wrap64 (x4 + 1))) else (none))) else (none)) else (some (x3,x0))
def quoinlaw23_kept.f (k : Nat) (l0 : List (S40)) : Option ((List (S38)) × (List (S40))) := quoinlaw23_kept.l0 k l0 ([] : List (S38)) 0
theorem quoinlaw23_kept.mono_l : ∀ k,(∀ y0 y1 y2,LeO (quoinlaw23_kept.l0 k y0 y1 y2) (quoinlaw23_kept.l0 (k + 1) y0 y1 y2))
 | 0 => fun _ _ _ r h => by simp [quoinlaw23_kept.l0] at h
 | k + 1 => by
  have ih0 := quoinlaw23_kept.mono_l k;intro y0 y1 y2;unfold quoinlaw23_kept.l0;repeat' first
  | (with_reducible exact ih0 _ _ _)
  | (with_reducible exact LeO.refl _)
  | (with_reducible exact LeO.none _)
  | (with_reducible refine LeO.ite ?_ ?_)
  | (with_reducible refine LeO.bind ?_ (fun _ => ?_))
  | exact ih0 _ _ _
  | exact LeO.none _
  | refine LeO.ite ?_ ?_
  | refine LeO.bind ?_ (fun _ => ?_)
theorem quoinlaw23_kept.mono : ∀ a0 k,LeO (quoinlaw23_kept.f k a0) (quoinlaw23_kept.f (k + 1) a0) := by
 intro a0 k;have ih0 := quoinlaw23_kept.mono_l k;unfold quoinlaw23_kept.f
 repeat' first
   | (with_reducible exact ih0 _ _ _)
   | (with_reducible exact LeO.refl _)
   | (with_reducible exact LeO.none _)
   | (with_reducible refine LeO.ite ?_ ?_)
   | (with_reducible refine LeO.bind ?_ (fun _ => ?_))
   | exact ih0 _ _ _
   | exact LeO.none _
   | refine LeO.ite ?_ ?_
   | refine LeO.bind ?_ (fun _ => ?_)
set_option maxHeartbeats 8000000 in
set_option maxRecDepth 100000 in
theorem quoinlaw23_kept.calls (k : Nat) (P0_ : Nat → Prop) (u9000_ : Value) (l0 : List (S40)) (r1 : List (S38)) (r2 : List (S40)) (w0 w : World) (hB : Below w0.heap.size w0 w) (ho0 : Kd.R k40 40 w w0.heap.size P0_ u9000_ l0) (h : quoinlaw23_kept.f k l0 = some (r1,r2)) :
  Calls Tryd.prog 13 #[u9000_] w fun e w' => ∃ v0_ : Value,e = .returned (v0_) ∧ Kd.N k38 38 w' w.heap.size (fun k_ => (P0_ k_ ∨ w.heap.size ≤ k_) ∧ some k_ ≠ (u9000_ : Value).ownBlock) v0_ r1 ∧ Kd.R k40 40 w' w0.heap.size (fun k_ => (P0_ k_ ∨ w.heap.size ≤ k_)) u9000_ r2 ∧ Below w0.heap.size w0 w' ∧ Kept w w' (fun k_ => P0_ k_) := by
 have hu40 := Tryd.underlying40;have hu35 := Tryd.underlying35;have hu38 := Tryd.underlying38;have HO0 := am0 (show Kd.R k40 40 w w0.heap.size (fun k_ => (P0_ k_ ∨ w.heap.size ≤ k_)) u9000_ l0 from Kd.R_mono ho0 (fun k_ hk => (.inl hk)));have HK := am0 (Kept.refl w (fun k_ => P0_ k_));have HW0 := am0 hB.size;have HB := am0 hB;clear hB;have H : (quoinlaw23_kept.l0 k l0 ([] : List (S38)) 0) = some (r1,r2) := h;clear h;have H' := am0 H;clear H;go_enter Tryd.func13,Tryd.ntmps13
 go_wp2
 go_loopg [3,4] k (fun kq v3 v4 w' => ∃ (x0_1 : List (S40)) (x3_1 : List (S38)) (x4_1 : Int),v4 = .int .i64 x4_1 ∧ Aside0 (quoinlaw23_kept.l0 kq x0_1 x3_1 x4_1 = some (r1,r2)) ∧ Aside0 (kq ≤ k) ∧ Aside0 (Kd.R k40 40 w' w0.heap.size (fun k_ => (P0_ k_ ∨ w.heap.size ≤ k_)) u9000_ x0_1) ∧ Aside0 (Kd.N k38 38 w' w.heap.size (fun k_ => (P0_ k_ ∨ w.heap.size ≤ k_) ∧ some k_ ≠ (u9000_ : Value).ownBlock) v3 x3_1) ∧ Aside0 (Kept w w' (fun k_ => P0_ k_)) ∧ Aside0 (Below w0.heap.size w0 w'))
 case atStart => exact ⟨(l0),(([] : List (S38))),(0),(by first | rfl | (simp;done) | (simp [*];done)),H',⟨Nat.le_refl _⟩,⟨by (with_reducible repeat (first | apply Kd.R_alloc | apply Kd.R_drewN | apply Kd.R_drew));exact HO0.out⟩,⟨by first | exact Kd.R_nil _ _ _ _ _ | exact Kd.N_nil _ _ _ _ _ | exact Kd.V_nil _ _ _ _ _ | exact Kd.Q_nil _ _ _ _ _ | exact Kd.S_nil _ _ _ _ _⟩,⟨by repeat (first | (with_reducible first | exact HK.out | apply Kept.alloc | apply Kept.drewN | apply Kept.drew) | exact HK.out)⟩,⟨by repeat (first | (with_reducible first | exact HB.out | apply below_alloc | apply pw_below_drewN | apply below_drew1) | exact HB.out)⟩⟩
 case round =>
  clear H';try clear c1
  obtain ⟨x0_1,x3_1,x4_1,rfl,HA,HK1,HO_0,HO_3,HK,HB⟩ := hrel
  cases gk with
  | zero => exact absurd HA.out (by simp [quoinlaw23_kept.l0])
  | succ k1 =>
   have H := HA.out;clear HA;simp only [quoinlaw23_kept.l0] at H
   by_cases c2 : x4_1 < (x0_1.length : Int)
   ·rw [if_pos c2] at H
    have c2b0 : decide (x4_1 < (x0_1.length : Int)) = true := decide_eq_true c2;clear c2
    by_cases c3 : 0 ≤ x4_1
    ·rw [if_pos c3] at H
     have c3b0 : decide (0 ≤ x4_1) = true := decide_eq_true c3;clear c3;obtain ⟨y109,hy109⟩ : ∃ y_ : List (S40),y_ = (x0_1.set (x4_1 : Int).toNat (⟨(⟨#[102]⟩ : ByteArray),(rd_T40 x0_1 x4_1).f1,(rd_T40 x0_1 x4_1).f2,(rd_T40 x0_1 x4_1).f3,(rd_T40 x0_1 x4_1).f4,(rd_T40 x0_1 x4_1).f5⟩ : S40)) := ⟨_,rfl⟩;replace H : (if x3_1.length < 1034834473200 then (quoinlaw23_kept.l0 k1 y109 (x3_1 ++ [(⟨x4_1,(-1),(⟨([] : List (S72)),(([(⟨(rd_T40 y109 x4_1).f0,(rd_T40 y109 x4_1).f1,(rd_T40 y109 x4_1).f2,(rd_T40 y109 x4_1).f3,(rd_T40 y109 x4_1).f4,(rd_T40 y109 x4_1).f5⟩ : S40)] : List (S40))),([] : List (S94)),([] : List (S68))⟩ : S35),([] : List Bool)⟩ : S38)]) (wrap64 (x4_1 + 1))) else (none)) = some (r1,r2) := by first | (rw [hy109];with_reducible exact H) | (have H2_ := (Option.bind_some _ _).symm.trans H;rw [hy109];with_reducible exact H2_) | (have H2_ := (Option.bind_some _ _).symm.trans H;with_reducible exact H2_) | with_reducible exact H | (rw [hy109];exact H) | exact H
     have Ny109 := am0 hy109;clear hy109;obtain ⟨y111,hy111⟩ : ∃ y_ : List (S40),y_ = (([(⟨(rd_T40 y109 x4_1).f0,(rd_T40 y109 x4_1).f1,(rd_T40 y109 x4_1).f2,(rd_T40 y109 x4_1).f3,(rd_T40 y109 x4_1).f4,(rd_T40 y109 x4_1).f5⟩ : S40)] : List (S40))) := ⟨_,rfl⟩;replace H : (if x3_1.length < 1034834473200 then (quoinlaw23_kept.l0 k1 y109 (x3_1 ++ [(⟨x4_1,(-1),(⟨([] : List (S72)),y111,([] : List (S94)),([] : List (S68))⟩ : S35),([] : List Bool)⟩ : S38)]) (wrap64 (x4_1 + 1))) else (none)) = some (r1,r2) := by first | (rw [hy111];with_reducible exact H) | (have H2_ := (Option.bind_some _ _).symm.trans H;rw [hy111];with_reducible exact H2_) | (have H2_ := (Option.bind_some _ _).symm.trans H;with_reducible exact H2_) | with_reducible exact H | (rw [hy111];exact H) | exact H
     have Ny111 := am0 hy111;clear hy111
     by_cases c5 : x3_1.length < 1034834473200
     ·rw [if_pos c5] at H
      have LMc5 := am0 c5;clear c5;obtain ⟨y114,hy114⟩ : ∃ y_ : List (S38),y_ = (x3_1 ++ [(⟨x4_1,(-1),(⟨([] : List (S72)),y111,([] : List (S94)),([] : List (S68))⟩ : S35),([] : List Bool)⟩ : S38)]) := ⟨_,rfl⟩;replace H : (quoinlaw23_kept.l0 k1 y109 y114 (wrap64 (x4_1 + 1))) = some (r1,r2) := by first | (rw [hy114];with_reducible exact H) | (have H2_ := (Option.bind_some _ _).symm.trans H;rw [hy114];with_reducible exact H2_) | (have H2_ := (Option.bind_some _ _).symm.trans H;with_reducible exact H2_) | with_reducible exact H | (rw [hy114];exact H) | exact H
      have Ny114 := am0 hy114;clear hy114;have H' := am0 H;clear H;obtain ⟨Ao6,co6,eo6⟩ := Kd.R_slice HO_0.out;subst eo6;have p4 : 0 ≤ (x4_1 : Int) := of_decide_eq_true (by first | (with_reducible assumption) | assumption);have q4 : (x4_1 : Int) < ((x0_1.length : Int) : Int) := of_decide_eq_true (by first | (with_reducible assumption) | assumption);obtain ⟨go4,co4,eo4,gb4,gl4,cl4,HG4⟩ := Kd.R_form HO_0.out (by omega)
      (first | cases eo4 | (injection eo4 with ea_ en_ ec_;(first | subst ea_ | (injection ea_ with ea_;subst ea_));subst ec_;clear en_))
      have GB4 := am0 gb4;have GG4 := am0 HG4;clear gb4 gl4 HG4;have HMgo4 := am0 (show (P0_ go4 ∨ w.heap.size ≤ go4) from (HO_0.out.1 _ rfl));obtain ⟨ce4,hcl4,hM4,hcc4,hfr4⟩ := Kd.R_elem HO_0.out z40 (x4_1 : Int) p4 q4;obtain rfl := k40_openM hM4;have hx4_0 : wr.cell? ⟨go4,(x4_1 : Int).toNat * 6,none⟩ = some (.string ((rd_T40 x0_1 x4_1).f0)) := hcc4 0 _ rfl;have hx4_1 : wr.cell? ⟨go4,(x4_1 : Int).toNat * 6 + 1,none⟩ = some (.int .u8 ((rd_T40 x0_1 x4_1).f1)) := hcc4 1 _ rfl;have hx4_2 : wr.cell? ⟨go4,(x4_1 : Int).toNat * 6 + 2,none⟩ = some (.bool ((rd_T40 x0_1 x4_1).f2)) := hcc4 2 _ rfl;have hx4_3 : wr.cell? ⟨go4,(x4_1 : Int).toNat * 6 + 3,none⟩ = some (.int .i64 ((rd_T40 x0_1 x4_1).f3)) := hcc4 3 _ rfl;have hx4_4 : wr.cell? ⟨go4,(x4_1 : Int).toNat * 6 + 4,none⟩ = some (.int .i64 ((rd_T40 x0_1 x4_1).f4)) := hcc4 4 _ rfl;have hx4_5 : wr.cell? ⟨go4,(x4_1 : Int).toNat * 6 + 5,none⟩ = some (.int .i64 ((rd_T40 x0_1 x4_1).f5)) := hcc4 5 _ rfl;have hf4_0 : wr.frozen? ⟨go4,(x4_1 : Int).toNat * 6,none⟩ = false := hfr4 0;have hf4_1 : wr.frozen? ⟨go4,(x4_1 : Int).toNat * 6 + 1,none⟩ = false := hfr4 1;have hf4_2 : wr.frozen? ⟨go4,(x4_1 : Int).toNat * 6 + 2,none⟩ = false := hfr4 2;have hf4_3 : wr.frozen? ⟨go4,(x4_1 : Int).toNat * 6 + 3,none⟩ = false := hfr4 3;have hf4_4 : wr.frozen? ⟨go4,(x4_1 : Int).toNat * 6 + 4,none⟩ = false := hfr4 4;have hf4_5 : wr.frozen? ⟨go4,(x4_1 : Int).toNat * 6 + 5,none⟩ = false := hfr4 5;clear hcl4 hcc4 hfr4 hM4;replace p4 := eq_true p4;replace q4 := eq_true q4;have HX7 := am0 (show Kd.R k40 40 wr w0.heap.size (fun k_ => (P0_ k_ ∨ w.heap.size ≤ k_)) (.slice (some ⟨go4,0,none⟩) x0_1.length co6) x0_1 from (by (with_reducible repeat (first | apply Kd.R_alloc | apply Kd.R_drewN | apply Kd.R_drew));exact HO_0.out));obtain ⟨ce7,hcl7,hM7,hcc7,hfr7⟩ := Kd.R_elem HX7.out z40 (x4_1 : Int) (of_decide_eq_true (by first | (with_reducible assumption) | assumption)) (by have h_ : (x4_1 : Int) < ((x0_1.length : Int) : Int) := of_decide_eq_true (by first | (with_reducible assumption) | assumption);first | exact h_ | (have e_ := (Kd.R_reads' HO_0.out).1;omega) | simpa using h_);obtain rfl := k40_openM hM7;have HP7 := Kd.R_seg HX7.out (x4_1 : Int) (of_decide_eq_true (by first | (with_reducible assumption) | assumption)) (by have h_ : (x4_1 : Int) < ((x0_1.length : Int) : Int) := of_decide_eq_true (by first | (with_reducible assumption) | assumption);first | exact h_ | (have e_ := (Kd.R_reads' HO_0.out).1;omega) | simpa using h_) (seg := [.string (⟨#[102]⟩ : ByteArray)]) (j := 0) hcl7 hcc7 (show 1 ≤ 6 from by decide) (x' := (⟨(⟨#[102]⟩ : ByteArray),(rd_T40 x0_1 x4_1).f1,(rd_T40 x0_1 x4_1).f2,(rd_T40 x0_1 x4_1).f3,(rd_T40 x0_1 x4_1).f4,(rd_T40 x0_1 x4_1).f5⟩ : S40)) (k40_mkM _ _ _ (⟨(⟨#[102]⟩ : ByteArray),(rd_T40 x0_1 x4_1).f1,(rd_T40 x0_1 x4_1).f2,(rd_T40 x0_1 x4_1).f3,(rd_T40 x0_1 x4_1).f4,(rd_T40 x0_1 x4_1).f5⟩ : S40) ) (fun _ hk => hk);have hx7_0 := hcc7 0 _ rfl
      (try simp only [show (k40).sz = 6 from rfl,Nat.mul_one,Nat.add_zero] at hx7_0)
      have hf7_0 := hfr7 0
      (try simp only [show (k40).sz = 6 from rfl,Nat.mul_one,Nat.add_zero] at hf7_0)
      clear hcl7 hcc7 hfr7 hM7;go_wp2_with (first | ((with_reducible refine gate_store (t := 9) (p := 14) rfl ?_);refine store_event (t := 9) (p := 14) (v := ?vo_w8) (w1 := (wr.setCell ⟨go4,(x4_1 : Int).toNat * 6,none⟩ (.string (⟨#[102]⟩ : ByteArray)))) ?hg ?ho ?hn ?hr ?_;(case ho => rfl);(case hg => rfl);(case hn => rfl);(case hr => first | (go_simp;done) | (go_simp;rfl));intro w8 hw;have hg : wr.grownBy w8 (some go4) := (by rw [hw];exact HP7.2);have hp_ : Kd.R k40 40 w8 w0.heap.size (fun k_ => (P0_ k_ ∨ w.heap.size ≤ k_)) (.slice (some ⟨go4,0,none⟩) x0_1.length co6) y109 := (by rw [hw,Ny109.out];exact HP7.1);clear HP7;have n0_ := am0 (hp_);have n1_ := am0 (Kd.N_afterv (v := (.slice (some ⟨go4,0,none⟩) x0_1.length co6)) (v1 := (.slice (some ⟨go4,0,none⟩) x0_1.length co6)) (ok := (fun k_ => (P0_ k_ ∨ w.heap.size ≤ k_))) (by (with_reducible repeat (first | apply Kd.N_alloc | apply Kd.N_drewN | apply Kd.N_drew));exact HO_3.out) hg (.inl rfl));have n2_ := am0 ((by rw [hw];exact below_set (HB.out) GB4.out : Below w0.heap.size w0 w8));have n3_ := am0 (Kept.of_grown (S := (fun k_ => P0_ k_)) hg (by repeat (first | (with_reducible first | exact HK.out | apply Kept.alloc | apply Kept.drewN | apply Kept.drew) | exact HK.out)) (fun k_ e_ => (HO_0.out.1 k_ e_)));clear HO_0;clear HO_3;clear HB;clear HK;have HO_0 := n0_;have HO_3 := n1_;have HB := n2_;have HK := n3_;clear n0_ n1_ n2_ n3_;clear hg hw hp_;have p110 : 0 ≤ (x4_1 : Int) := of_decide_eq_true (by first | (with_reducible assumption) | assumption);have q110 : x4_1 < (y109.length : Int) := (by have h_ : (x4_1 : Int) < ((x0_1.length : Int) : Int) := of_decide_eq_true (by first | (with_reducible assumption) | assumption);first | (have e_ := (Kd.R_reads' HO_0.out).1;omega) | simpa only [Ny109.out,List.length_set] using h_);have ql110 : ((x4_1 : Int) < ((x0_1.length : Int) : Int)) = True := eq_true (of_decide_eq_true (by first | (with_reducible assumption) | assumption));obtain ⟨ad110,e110,hx110_0,hx110_1,hx110_2,hx110_3,hx110_4,hx110_5⟩ := at_T40 (Kd.R_reads' HO_0.out).2.2 x4_1 p110 q110;obtain rfl : (⟨go4,0,none⟩ : Addr) = ad110 := (by injection e110);(first | simp only [add_plain] at hx110_0 | simp only [add_at] at hx110_0 | simp only [Addr.add,Nat.zero_add] at hx110_0 | skip);(first | simp only [add_plain] at hx110_1 | simp only [add_at] at hx110_1 | simp only [Addr.add,Nat.zero_add] at hx110_1 | skip);(first | simp only [add_plain] at hx110_2 | simp only [add_at] at hx110_2 | simp only [Addr.add,Nat.zero_add] at hx110_2 | skip);(first | simp only [add_plain] at hx110_3 | simp only [add_at] at hx110_3 | simp only [Addr.add,Nat.zero_add] at hx110_3 | skip);(first | simp only [add_plain] at hx110_4 | simp only [add_at] at hx110_4 | simp only [Addr.add,Nat.zero_add] at hx110_4 | skip);(first | simp only [add_plain] at hx110_5 | simp only [add_at] at hx110_5 | simp only [Addr.add,Nat.zero_add] at hx110_5 | skip);replace p110 := eq_true p110;replace q110 := eq_true q110) | ((with_reducible refine gate_dst (N := 21) rfl ?_);refine Kd.R_lit k40 _ 40 ?hg (N := 21) ?hd (xs := ([(⟨(rd_T40 y109 x4_1).f0,(rd_T40 y109 x4_1).f1,(rd_T40 y109 x4_1).f2,(rd_T40 y109 x4_1).f3,(rd_T40 y109 x4_1).f4,(rd_T40 y109 x4_1).f5⟩ : S40)] : List (S40))) (inner := [.string ((rd_T40 y109 x4_1).f0), .int .u8 ((rd_T40 y109 x4_1).f1), .bool ((rd_T40 y109 x4_1).f2), .int .i64 ((rd_T40 y109 x4_1).f3), .int .i64 ((rd_T40 y109 x4_1).f4), .int .i64 ((rd_T40 y109 x4_1).f5)]) (ok := fun _ => True) (okp := fun _ => True) ?hr ?hp (fun _ hk => hk) trivial (Below.refl _ _) (Nat.le_refl _) (by simp) ?_;(case hd => rfl);(case hg => rfl);(case hr => first | (go_simp;done) | (go_simp;rfl));(case hp => exact (Reps.c6 (show Kd.M k40 _ _ _ (⟨(rd_T40 y109 x4_1).f0,(rd_T40 y109 x4_1).f1,(rd_T40 y109 x4_1).f2,(rd_T40 y109 x4_1).f3,(rd_T40 y109 x4_1).f4,(rd_T40 y109 x4_1).f5⟩ : S40) [.string ((rd_T40 y109 x4_1).f0), .int .u8 ((rd_T40 y109 x4_1).f1), .bool ((rd_T40 y109 x4_1).f2), .int .i64 ((rd_T40 y109 x4_1).f3), .int .i64 ((rd_T40 y109 x4_1).f4), .int .i64 ((rd_T40 y109 x4_1).f5)] from (k40_mkM _ _ _ (⟨(rd_T40 y109 x4_1).f0,(rd_T40 y109 x4_1).f1,(rd_T40 y109 x4_1).f2,(rd_T40 y109 x4_1).f3,(rd_T40 y109 x4_1).f4,(rd_T40 y109 x4_1).f5⟩ : S40) )) (Reps.none _ _)));intro v112 w9 ho10 hb hg_ hnew_;clear hg_ hnew_;(first | rw [← Ny111.out] at ho10 | (simp only [Int.reduceToNat] at ho10;rw [← Ny111.out] at ho10));have n0_ := am0 (Kd.R_elder' (by (with_reducible repeat (first | apply Kd.R_alloc | apply Kd.R_drewN | apply Kd.R_drew));exact HO_0.out) (Kd.R_base ho10) hb);have n1_ := am0 (Kd.N_elder' (by (with_reducible repeat (first | apply Kd.N_alloc | apply Kd.N_drewN | apply Kd.N_drew));exact HO_3.out) (Kd.R_base ho10) hb);have n2_ := am0 (Kd.R_lower (Kd.R_new' (Kd.R_newM (M := fun k_ => (P0_ k_ ∨ w.heap.size ≤ k_)) ho10 (by first | exact HK.out.1 | exact (show Kept w _ (fun k_ => P0_ k_) from by repeat (first | (with_reducible first | exact HK.out | apply Kept.alloc | apply Kept.drewN | apply Kept.drew) | exact HK.out)).1) (fun k_ h_ => .inr h_)) (Kd.R_lt (by (with_reducible repeat (first | apply Kd.R_alloc | apply Kd.R_drewN | apply Kd.R_drew));exact HO_0.out))) (below_size (by repeat (first | (with_reducible first | exact HB.out | apply below_alloc | apply pw_below_drewN | apply below_drew1) | exact HB.out))));have n3_ := am0 (Kept.below (S := (fun k_ => P0_ k_)) (by repeat (first | (with_reducible first | exact HK.out | apply Kept.alloc | apply Kept.drewN | apply Kept.drew) | exact HK.out)) hb);have n4_ := am0 (below_step (by repeat (first | (with_reducible first | exact HB.out | apply below_alloc | apply pw_below_drewN | apply below_drew1) | exact HB.out)) hb);clear HO_0;clear HO_3;clear HK;clear HB;have HO_0 := n0_;have HO_3 := n1_;have HO113 := n2_;have HK := n3_;have HB := n4_;clear n0_ n1_ n2_ n3_ n4_;clear hb ho10;obtain ⟨Ao11,co11,eo11⟩ := Kd.R_slice HO113.out;subst eo11) | ((with_reducible refine gate_builtin (b := .append) (xs := #[(.tmp 15),(.tmp 24)]) rfl ?_);at_builtin;refine Kd.N_append k38 w.heap.size rfl (.tmp 15) (.tmp 24) 22 38 (.agg #[(.int .i64 0),(.int .i64 0),(.slice none 0 0),(.slice none 0 0),(.slice none 0 0),(.slice none 0 0),(.slice none 0 0)]) 136 rfl Tryd.underlying22 info38 rfl (by decide) (by omega) u3 x3_1 (⟨x4_1,(-1),(⟨([] : List (S72)),y111,([] : List (S94)),([] : List (S68))⟩ : S35),([] : List Bool)⟩ : S38) [.int .i64 x4_1, .int .i64 (-1), .slice none 0 0, .slice Ao11 y111.length co11, .slice none 0 0, .slice none 0 0, .slice none 0 0] (fun k_ => (P0_ k_ ∨ w.heap.size ≤ k_) ∧ some k_ ≠ (.slice (some ⟨go4,0,none⟩) x0_1.length co6 : Value).ownBlock) (fun k_ => ((fun k_ => (P0_ k_ ∨ w.heap.size ≤ k_) ∧ some k_ ≠ (.slice (some ⟨go4,0,none⟩) x0_1.length co6 : Value).ownBlock)) k_ ∧ some k_ ≠ (u3 : Value).ownBlock) rfl rfl ?aP (fun _ hk => hk) ?aF ?aO (Below.refl _ _) ?aS ?aL ?_;(case aP => exact (k38_mkF _ _ (⟨x4_1,(-1),(⟨([] : List (S72)),y111,([] : List (S94)),([] : List (S68))⟩ : S35),([] : List Bool)⟩ : S38) (Nat.le_refl _) (Kd.F_nil _ _ _) (Kd.R_reads' (Kd.R_mono (ok' := (fun k_ => ((fun k_ => (P0_ k_ ∨ w.heap.size ≤ k_) ∧ some k_ ≠ (.slice (some ⟨go4,0,none⟩) x0_1.length co6 : Value).ownBlock)) k_ ∧ some k_ ≠ (u3 : Value).ownBlock)) (Kd.R_apart' (HO113.out) (Kd.N_typed HO_3.out) (by decide)) (fun k_ hk => ⟨⟨hk.1.1.1,hk.1.2⟩,hk.2⟩))).2.1 (Kd.R_F (Kd.R_mono (ok' := (fun k_ => ((fun k_ => (P0_ k_ ∨ w.heap.size ≤ k_) ∧ some k_ ≠ (.slice (some ⟨go4,0,none⟩) x0_1.length co6 : Value).ownBlock)) k_ ∧ some k_ ≠ (u3 : Value).ownBlock)) (Kd.R_apart' (HO113.out) (Kd.N_typed HO_3.out) (by decide)) (fun k_ hk => ⟨⟨hk.1.1.1,hk.1.2⟩,hk.2⟩))) (Nat.le_refl _) (Kd.F_nil _ _ _) (Nat.le_refl _) (Kd.F_nil _ _ _) (Nat.le_refl _) (Kd.F_nil _ _ _)));(case aF => exact (fun k_ hk => ⟨(.inr (Nat.le_trans (by first | exact HK.out.1 | exact (show Kept w _ (fun k_ => P0_ k_) from by repeat (first | (with_reducible first | exact HK.out | apply Kept.alloc | apply Kept.drewN | apply Kept.drew) | exact HK.out)).1) hk)),Kd.fresh' (Kd.R_lt (by (with_reducible repeat (first | apply Kd.R_alloc | apply Kd.R_drewN | apply Kd.R_drew));exact HO_0.out)) k_ hk⟩));(case aO => exact (by (with_reducible repeat (first | apply Kd.N_alloc | apply Kd.N_drewN | apply Kd.N_drew));exact Kd.N_mono HO_3.out (fun _ hk => ⟨hk.1.1,hk.1.2⟩)));(case aS => exact (by first | exact HK.out.1 | exact (show Kept w _ (fun k_ => P0_ k_) from by repeat (first | (with_reducible first | exact HK.out | apply Kept.alloc | apply Kept.drewN | apply Kept.drew) | exact HK.out)).1));(case aL => have := LMc5.out;omega);intro v115 w12 ho hb hg hat;rw [← Ny114.out] at ho;have n0_ := am0 (Kd.R_over' (by (with_reducible repeat (first | apply Kd.R_alloc | apply Kd.R_drewN | apply Kd.R_drew));exact HO_0.out) (Kd.N_typed (by (with_reducible repeat (first | apply Kd.N_alloc | apply Kd.N_drewN | apply Kd.N_drew));exact HO_3.out)) (by decide) hg);have n1_ := am0 (below_weaken (by repeat (first | (with_reducible first | exact HB.out | apply below_alloc | apply pw_below_drewN | apply below_drew1) | exact HB.out)) HW0.out hb);have n2_ := am0 (Kept.of_grown (S := (fun k_ => P0_ k_)) hg (by repeat (first | (with_reducible first | exact HK.out | apply Kept.alloc | apply Kept.drewN | apply Kept.drew) | exact HK.out)) (fun k_ e_ => .inr (Kd.N_base HO_3.out k_ e_)));have n3_ := am0 (ho);clear HO_0;clear HB;clear HK;clear HO_3;clear HO113;have HO_0 := n0_;have HB := n1_;have HK := n2_;have HO116 := n3_;clear n0_ n1_ n2_ n3_;clear ho hb hg hat))
      go_roundg k1
      case measure => have := HK1.out;omega
      case rel => exact ⟨(y109),(y114),(wrap64 (x4_1 + 1)),(by first | rfl | (simp;done) | (simp [*];done)),H',⟨by have := HK1.out;omega⟩,⟨by (with_reducible repeat (first | apply Kd.R_alloc | apply Kd.R_drewN | apply Kd.R_drew));exact Kd.R_mono HO_0.out (fun _ hk => hk.1)⟩,⟨by (with_reducible repeat (first | apply Kd.N_alloc | apply Kd.N_drewN | apply Kd.N_drew));exact HO116.out⟩,⟨by repeat (first | (with_reducible first | exact HK.out | apply Kept.alloc | apply Kept.drewN | apply Kept.drew) | exact HK.out)⟩,⟨by repeat (first | (with_reducible first | exact HB.out | apply below_alloc | apply pw_below_drewN | apply below_drew1) | exact HB.out)⟩⟩
     rw [if_neg c5] at H;exact absurd H (by simp)
    rw [if_neg c3] at H;exact absurd H (by simp)
   rw [if_neg c2] at H;have c2b0 : decide (x4_1 < (x0_1.length : Int)) = false := decide_eq_false c2;clear c2;simp only [Option.some.injEq,Prod.mk.injEq] at H;obtain ⟨rfl,rfl⟩ := H;obtain ⟨Ao13,co13,eo13⟩ := Kd.R_slice HO_0.out;subst eo13;go_wp2
   go_ret
   exact ⟨_,by first | rfl | (simp [errW_none,errW_some] <;> rfl) | (simp [*,errW_none,errW_some] <;> rfl),by (with_reducible repeat (first | apply Kd.N_alloc | apply Kd.N_drewN | apply Kd.N_drew));exact HO_3.out,by (with_reducible repeat (first | apply Kd.R_alloc | apply Kd.R_drewN | apply Kd.R_drew));exact HO_0.out,by repeat (first | (with_reducible first | exact HB.out | apply below_alloc | apply pw_below_drewN | apply below_drew1) | exact HB.out),by repeat (first | (with_reducible first | exact HK.out | apply Kept.alloc | apply Kept.drewN | apply Kept.drew) | exact HK.out)⟩
def quoinlaw23_weak.f  : Option (ByteArray × Int × Bool × Int × Int × Int) := some ((⟨#[]⟩ : ByteArray),2,false,(-1),0,0)
set_option maxHeartbeats 8000000 in
set_option maxRecDepth 100000 in
theorem quoinlaw23_weak.calls  (r1 : ByteArray) (r2 : Int) (r3 : Bool) (r4 : Int) (r5 : Int) (r6 : Int) (w : World) (h : quoinlaw23_weak.f  = some (r1,r2,r3,r4,r5,r6)) :
  Calls Tryd.prog 15 #[] w fun e w' => e = .returned (.agg #[.string r1, .int .u8 r2, .bool r3, .int .i64 r4, .int .i64 r5, .int .i64 r6]) ∧ Below w.heap.size w w' := by
 have hu40 := Tryd.underlying40;have HB := am0 (Below.refl w.heap.size w);have H : (some ((⟨#[]⟩ : ByteArray),2,false,(-1),0,0)) = some (r1,r2,r3,r4,r5,r6) := h;clear h;simp only [Option.some.injEq,Prod.mk.injEq] at H;obtain ⟨rfl,rfl,rfl,rfl,rfl,rfl⟩ := H;go_enter Tryd.func15,Tryd.ntmps15
 go_wp2_with (first | ((with_reducible refine gate_dst (N := 0) rfl ?_);refine box_event ?hg (N := 0) ?hd (cs := #[.string (⟨#[]⟩ : ByteArray), .int .u8 0, .bool false, .int .i64 0, .int .i64 0, .int .i64 0]) (t := 40) ?hr ?_;(case hd => rfl);(case hg => rfl);(case hr => first | (go_simp;done) | (go_simp;rfl));intro gb117 hg w1 hbox hb;have n0_ := am0 (below_step (by repeat (first | (with_reducible first | exact HB.out | apply below_alloc | apply pw_below_drewN | apply below_drew1) | exact HB.out)) hb);have n1_ := am0 (hbox);have n2_ := am0 ((by rw [hg];exact (below_size (by repeat (first | (with_reducible first | exact HB.out | apply below_alloc | apply pw_below_drewN | apply below_drew1) | exact HB.out))) : w.heap.size ≤ gb117));have n3_ := am0 ((by rw [hg];exact (below_size (by repeat (first | (with_reducible first | exact HB.out | apply below_alloc | apply pw_below_drewN | apply below_drew1) | exact HB.out))) : w.heap.size ≤ gb117));clear HB;have HB := n0_;have BK117 := n1_;have GW117 := n2_;have GE117 := n3_;clear n0_ n1_ n2_ n3_;clear hb hbox hg;have hcz2_0 : w1.cell? ⟨gb117,0,none⟩ = some (.string (⟨#[]⟩ : ByteArray)) := (blk_cell BK117.out 0).trans rfl;have hcz2_1 : w1.cell? ⟨gb117,1,none⟩ = some (.int .u8 0) := (blk_cell BK117.out 1).trans rfl;have hcz2_2 : w1.cell? ⟨gb117,2,none⟩ = some (.bool false) := (blk_cell BK117.out 2).trans rfl;have hcz2_3 : w1.cell? ⟨gb117,3,none⟩ = some (.int .i64 0) := (blk_cell BK117.out 3).trans rfl;have hcz2_4 : w1.cell? ⟨gb117,4,none⟩ = some (.int .i64 0) := (blk_cell BK117.out 4).trans rfl;have hcz2_5 : w1.cell? ⟨gb117,5,none⟩ = some (.int .i64 0) := (blk_cell BK117.out 5).trans rfl;have hfz2_0 := blk_frozen BK117.out 0;have hfz2_1 := blk_frozen BK117.out 1;have hfz2_2 := blk_frozen BK117.out 2;have hfz2_3 := blk_frozen BK117.out 3;have hfz2_4 := blk_frozen BK117.out 4;have hfz2_5 := blk_frozen BK117.out 5))
 refine bodyPost_ret (results_cell_row rfl _ _ gb117 40 #[.string (⟨#[]⟩ : ByteArray), .int .u8 2, .bool false, .int .i64 (-1), .int .i64 0, .int .i64 0] (0,0) _ rfl (by (with_reducible repeat (first | refine blk_drewN ?_ _ | refine blk_drew ?_ | refine blk_alloc ?_ _));refine blk_put (cs := #[.string (⟨#[]⟩ : ByteArray), .int .u8 2, .bool false, .int .i64 (-1), .int .i64 0, .int .i64 0]) ?_ 5 _ rfl;(with_reducible repeat (first | refine blk_drewN ?_ _ | refine blk_drew ?_ | refine blk_alloc ?_ _));refine blk_put (cs := #[.string (⟨#[]⟩ : ByteArray), .int .u8 2, .bool false, .int .i64 (-1), .int .i64 0, .int .i64 0]) ?_ 4 _ rfl;(with_reducible repeat (first | refine blk_drewN ?_ _ | refine blk_drew ?_ | refine blk_alloc ?_ _));refine blk_put (cs := #[.string (⟨#[]⟩ : ByteArray), .int .u8 2, .bool false, .int .i64 0, .int .i64 0, .int .i64 0]) ?_ 3 _ rfl;(with_reducible repeat (first | refine blk_drewN ?_ _ | refine blk_drew ?_ | refine blk_alloc ?_ _));refine blk_put (cs := #[.string (⟨#[]⟩ : ByteArray), .int .u8 2, .bool false, .int .i64 0, .int .i64 0, .int .i64 0]) ?_ 2 _ rfl;(with_reducible repeat (first | refine blk_drewN ?_ _ | refine blk_drew ?_ | refine blk_alloc ?_ _));refine blk_put (cs := #[.string (⟨#[]⟩ : ByteArray), .int .u8 0, .bool false, .int .i64 0, .int .i64 0, .int .i64 0]) ?_ 1 _ rfl;(with_reducible repeat (first | refine blk_drewN ?_ _ | refine blk_drew ?_ | refine blk_alloc ?_ _));refine blk_put (cs := #[.string (⟨#[]⟩ : ByteArray), .int .u8 0, .bool false, .int .i64 0, .int .i64 0, .int .i64 0]) ?_ 0 _ rfl;(with_reducible repeat (first | refine blk_drewN ?_ _ | refine blk_drew ?_ | refine blk_alloc ?_ _));exact BK117.out) Tryd.underlying40 rfl (by kernel_rfl)) rfl ?_;exact ⟨by first | rfl | (simp [errW_none,errW_some] <;> rfl) | (simp [*,errW_none,errW_some] <;> rfl),by repeat (first | (with_reducible first | exact HB.out | apply below_alloc | apply pw_below_drewN | apply below_drew1 | refine below_set ?_ GE117.out) | exact HB.out)⟩
def quoinlaw23_strong.f  : Option (ByteArray × Int × Bool × Int × Int × Int) := some ((⟨#[]⟩ : ByteArray),1,false,(-1),0,0)
set_option maxHeartbeats 8000000 in
set_option maxRecDepth 100000 in
theorem quoinlaw23_strong.calls  (r1 : ByteArray) (r2 : Int) (r3 : Bool) (r4 : Int) (r5 : Int) (r6 : Int) (w : World) (h : quoinlaw23_strong.f  = some (r1,r2,r3,r4,r5,r6)) :
  Calls Tryd.prog 16 #[] w fun e w' => e = .returned (.agg #[.string r1, .int .u8 r2, .bool r3, .int .i64 r4, .int .i64 r5, .int .i64 r6]) ∧ Below w.heap.size w w' := by
 have hu40 := Tryd.underlying40;have HB := am0 (Below.refl w.heap.size w);have H : (some ((⟨#[]⟩ : ByteArray),1,false,(-1),0,0)) = some (r1,r2,r3,r4,r5,r6) := h;clear h;simp only [Option.some.injEq,Prod.mk.injEq] at H;obtain ⟨rfl,rfl,rfl,rfl,rfl,rfl⟩ := H;go_enter Tryd.func16,Tryd.ntmps16
 go_wp2_with (first | ((with_reducible refine gate_dst (N := 0) rfl ?_);refine box_event ?hg (N := 0) ?hd (cs := #[.string (⟨#[]⟩ : ByteArray), .int .u8 0, .bool false, .int .i64 0, .int .i64 0, .int .i64 0]) (t := 40) ?hr ?_;(case hd => rfl);(case hg => rfl);(case hr => first | (go_simp;done) | (go_simp;rfl));intro gb118 hg w1 hbox hb;have n0_ := am0 (below_step (by repeat (first | (with_reducible first | exact HB.out | apply below_alloc | apply pw_below_drewN | apply below_drew1) | exact HB.out)) hb);have n1_ := am0 (hbox);have n2_ := am0 ((by rw [hg];exact (below_size (by repeat (first | (with_reducible first | exact HB.out | apply below_alloc | apply pw_below_drewN | apply below_drew1) | exact HB.out))) : w.heap.size ≤ gb118));have n3_ := am0 ((by rw [hg];exact (below_size (by repeat (first | (with_reducible first | exact HB.out | apply below_alloc | apply pw_below_drewN | apply below_drew1) | exact HB.out))) : w.heap.size ≤ gb118));clear HB;have HB := n0_;have BK118 := n1_;have GW118 := n2_;have GE118 := n3_;clear n0_ n1_ n2_ n3_;clear hb hbox hg;have hcz2_0 : w1.cell? ⟨gb118,0,none⟩ = some (.string (⟨#[]⟩ : ByteArray)) := (blk_cell BK118.out 0).trans rfl;have hcz2_1 : w1.cell? ⟨gb118,1,none⟩ = some (.int .u8 0) := (blk_cell BK118.out 1).trans rfl;have hcz2_2 : w1.cell? ⟨gb118,2,none⟩ = some (.bool false) := (blk_cell BK118.out 2).trans rfl;have hcz2_3 : w1.cell? ⟨gb118,3,none⟩ = some (.int .i64 0) := (blk_cell BK118.out 3).trans rfl;have hcz2_4 : w1.cell? ⟨gb118,4,none⟩ = some (.int .i64 0) := (blk_cell BK118.out 4).trans rfl;have hcz2_5 : w1.cell? ⟨gb118,5,none⟩ = some (.int .i64 0) := (blk_cell BK118.out 5).trans rfl;have hfz2_0 := blk_frozen BK118.out 0;have hfz2_1 := blk_frozen BK118.out 1;have hfz2_2 := blk_frozen BK118.out 2;have hfz2_3 := blk_frozen BK118.out 3;have hfz2_4 := blk_frozen BK118.out 4;have hfz2_5 := blk_frozen BK118.out 5))
 refine bodyPost_ret (results_cell_row rfl _ _ gb118 40 #[.string (⟨#[]⟩ : ByteArray), .int .u8 1, .bool false, .int .i64 (-1), .int .i64 0, .int .i64 0] (0,0) _ rfl (by (with_reducible repeat (first | refine blk_drewN ?_ _ | refine blk_drew ?_ | refine blk_alloc ?_ _));refine blk_put (cs := #[.string (⟨#[]⟩ : ByteArray), .int .u8 1, .bool false, .int .i64 (-1), .int .i64 0, .int .i64 0]) ?_ 5 _ rfl;(with_reducible repeat (first | refine blk_drewN ?_ _ | refine blk_drew ?_ | refine blk_alloc ?_ _));refine blk_put (cs := #[.string (⟨#[]⟩ : ByteArray), .int .u8 1, .bool false, .int .i64 (-1), .int .i64 0, .int .i64 0]) ?_ 4 _ rfl;(with_reducible repeat (first | refine blk_drewN ?_ _ | refine blk_drew ?_ | refine blk_alloc ?_ _));refine blk_put (cs := #[.string (⟨#[]⟩ : ByteArray), .int .u8 1, .bool false, .int .i64 0, .int .i64 0, .int .i64 0]) ?_ 3 _ rfl;(with_reducible repeat (first | refine blk_drewN ?_ _ | refine blk_drew ?_ | refine blk_alloc ?_ _));refine blk_put (cs := #[.string (⟨#[]⟩ : ByteArray), .int .u8 1, .bool false, .int .i64 0, .int .i64 0, .int .i64 0]) ?_ 2 _ rfl;(with_reducible repeat (first | refine blk_drewN ?_ _ | refine blk_drew ?_ | refine blk_alloc ?_ _));refine blk_put (cs := #[.string (⟨#[]⟩ : ByteArray), .int .u8 0, .bool false, .int .i64 0, .int .i64 0, .int .i64 0]) ?_ 1 _ rfl;(with_reducible repeat (first | refine blk_drewN ?_ _ | refine blk_drew ?_ | refine blk_alloc ?_ _));refine blk_put (cs := #[.string (⟨#[]⟩ : ByteArray), .int .u8 0, .bool false, .int .i64 0, .int .i64 0, .int .i64 0]) ?_ 0 _ rfl;(with_reducible repeat (first | refine blk_drewN ?_ _ | refine blk_drew ?_ | refine blk_alloc ?_ _));exact BK118.out) Tryd.underlying40 rfl (by kernel_rfl)) rfl ?_;exact ⟨by first | rfl | (simp [errW_none,errW_some] <;> rfl) | (simp [*,errW_none,errW_some] <;> rfl),by repeat (first | (with_reducible first | exact HB.out | apply below_alloc | apply pw_below_drewN | apply below_drew1 | refine below_set ?_ GE118.out) | exact HB.out)⟩
def quoinlaw23_lack.f  : Option (ByteArray × Int × Bool × Int × Int × Int) := some ((⟨#[]⟩ : ByteArray),1,false,0,0,0)
set_option maxHeartbeats 8000000 in
set_option maxRecDepth 100000 in
theorem quoinlaw23_lack.calls  (r1 : ByteArray) (r2 : Int) (r3 : Bool) (r4 : Int) (r5 : Int) (r6 : Int) (w : World) (h : quoinlaw23_lack.f  = some (r1,r2,r3,r4,r5,r6)) :
  Calls Tryd.prog 17 #[] w fun e w' => e = .returned (.agg #[.string r1, .int .u8 r2, .bool r3, .int .i64 r4, .int .i64 r5, .int .i64 r6]) ∧ Below w.heap.size w w' := by
 have hu40 := Tryd.underlying40;have HB := am0 (Below.refl w.heap.size w);have H : (some ((⟨#[]⟩ : ByteArray),1,false,0,0,0)) = some (r1,r2,r3,r4,r5,r6) := h;clear h;simp only [Option.some.injEq,Prod.mk.injEq] at H;obtain ⟨rfl,rfl,rfl,rfl,rfl,rfl⟩ := H;go_enter Tryd.func17,Tryd.ntmps17
 go_wp2_with (first | ((with_reducible refine gate_dst (N := 0) rfl ?_);refine box_event ?hg (N := 0) ?hd (cs := #[.string (⟨#[]⟩ : ByteArray), .int .u8 0, .bool false, .int .i64 0, .int .i64 0, .int .i64 0]) (t := 40) ?hr ?_;(case hd => rfl);(case hg => rfl);(case hr => first | (go_simp;done) | (go_simp;rfl));intro gb119 hg w1 hbox hb;have n0_ := am0 (below_step (by repeat (first | (with_reducible first | exact HB.out | apply below_alloc | apply pw_below_drewN | apply below_drew1) | exact HB.out)) hb);have n1_ := am0 (hbox);have n2_ := am0 ((by rw [hg];exact (below_size (by repeat (first | (with_reducible first | exact HB.out | apply below_alloc | apply pw_below_drewN | apply below_drew1) | exact HB.out))) : w.heap.size ≤ gb119));have n3_ := am0 ((by rw [hg];exact (below_size (by repeat (first | (with_reducible first | exact HB.out | apply below_alloc | apply pw_below_drewN | apply below_drew1) | exact HB.out))) : w.heap.size ≤ gb119));clear HB;have HB := n0_;have BK119 := n1_;have GW119 := n2_;have GE119 := n3_;clear n0_ n1_ n2_ n3_;clear hb hbox hg;have hcz2_0 : w1.cell? ⟨gb119,0,none⟩ = some (.string (⟨#[]⟩ : ByteArray)) := (blk_cell BK119.out 0).trans rfl;have hcz2_1 : w1.cell? ⟨gb119,1,none⟩ = some (.int .u8 0) := (blk_cell BK119.out 1).trans rfl;have hcz2_2 : w1.cell? ⟨gb119,2,none⟩ = some (.bool false) := (blk_cell BK119.out 2).trans rfl;have hcz2_3 : w1.cell? ⟨gb119,3,none⟩ = some (.int .i64 0) := (blk_cell BK119.out 3).trans rfl;have hcz2_4 : w1.cell? ⟨gb119,4,none⟩ = some (.int .i64 0) := (blk_cell BK119.out 4).trans rfl;have hcz2_5 : w1.cell? ⟨gb119,5,none⟩ = some (.int .i64 0) := (blk_cell BK119.out 5).trans rfl;have hfz2_0 := blk_frozen BK119.out 0;have hfz2_1 := blk_frozen BK119.out 1;have hfz2_2 := blk_frozen BK119.out 2;have hfz2_3 := blk_frozen BK119.out 3;have hfz2_4 := blk_frozen BK119.out 4;have hfz2_5 := blk_frozen BK119.out 5))
 refine bodyPost_ret (results_cell_row rfl _ _ gb119 40 #[.string (⟨#[]⟩ : ByteArray), .int .u8 1, .bool false, .int .i64 0, .int .i64 0, .int .i64 0] (0,0) _ rfl (by (with_reducible repeat (first | refine blk_drewN ?_ _ | refine blk_drew ?_ | refine blk_alloc ?_ _));refine blk_put (cs := #[.string (⟨#[]⟩ : ByteArray), .int .u8 1, .bool false, .int .i64 0, .int .i64 0, .int .i64 0]) ?_ 5 _ rfl;(with_reducible repeat (first | refine blk_drewN ?_ _ | refine blk_drew ?_ | refine blk_alloc ?_ _));refine blk_put (cs := #[.string (⟨#[]⟩ : ByteArray), .int .u8 1, .bool false, .int .i64 0, .int .i64 0, .int .i64 0]) ?_ 4 _ rfl;(with_reducible repeat (first | refine blk_drewN ?_ _ | refine blk_drew ?_ | refine blk_alloc ?_ _));refine blk_put (cs := #[.string (⟨#[]⟩ : ByteArray), .int .u8 1, .bool false, .int .i64 0, .int .i64 0, .int .i64 0]) ?_ 3 _ rfl;(with_reducible repeat (first | refine blk_drewN ?_ _ | refine blk_drew ?_ | refine blk_alloc ?_ _));refine blk_put (cs := #[.string (⟨#[]⟩ : ByteArray), .int .u8 1, .bool false, .int .i64 0, .int .i64 0, .int .i64 0]) ?_ 2 _ rfl;(with_reducible repeat (first | refine blk_drewN ?_ _ | refine blk_drew ?_ | refine blk_alloc ?_ _));refine blk_put (cs := #[.string (⟨#[]⟩ : ByteArray), .int .u8 0, .bool false, .int .i64 0, .int .i64 0, .int .i64 0]) ?_ 1 _ rfl;(with_reducible repeat (first | refine blk_drewN ?_ _ | refine blk_drew ?_ | refine blk_alloc ?_ _));refine blk_put (cs := #[.string (⟨#[]⟩ : ByteArray), .int .u8 0, .bool false, .int .i64 0, .int .i64 0, .int .i64 0]) ?_ 0 _ rfl;(with_reducible repeat (first | refine blk_drewN ?_ _ | refine blk_drew ?_ | refine blk_alloc ?_ _));exact BK119.out) Tryd.underlying40 rfl (by kernel_rfl)) rfl ?_;exact ⟨by first | rfl | (simp [errW_none,errW_some] <;> rfl) | (simp [*,errW_none,errW_some] <;> rfl),by repeat (first | (with_reducible first | exact HB.out | apply below_alloc | apply pw_below_drewN | apply below_drew1 | refine below_set ?_ GE119.out) | exact HB.out)⟩
end Go.Proofs.YtalomolellcefaaDoor.Q
namespace Go.Proofs.YtalomolellcefaaDoor.Q
open Go.RowKit Go.Proofs.YtalomolellcefaaDoorW.PrintWords Go.Proofs.YtalomolellcefaaDoorW.PrintLast Go.Proofs.YtalomolellcefaaDoorW.PrintMore
attribute [local go_sem] max2_int min2_int max_two min_two
attribute [local go_sem high] eqA43
noncomputable def quoinlaw23_alive.f (k : Nat)  : Option (Bool) := (quoinlaw23_lack.f).bind fun bt120 => ((quoinlaw23_weak.f).bind fun bt126 => ((quoinlaw23_strong.f).bind fun bt132 => ((quoinlaw23_kept.f k (([(⟨bt120.1,bt120.2.1,bt120.2.2.1,bt120.2.2.2.1,bt120.2.2.2.2.1,bt120.2.2.2.2.2⟩ : S40),(⟨bt126.1,bt126.2.1,bt126.2.2.1,bt126.2.2.2.1,bt126.2.2.2.2.1,bt126.2.2.2.2.2⟩ : S40),(⟨bt132.1,bt132.2.1,bt132.2.2.1,bt132.2.2.2.1,bt132.2.2.2.2.1,bt132.2.2.2.2.2⟩ : S40)] : List (S40)))).bind fun bt141 => ((quoinlaw23_stands.f k bt141.1).bind fun bt145 => (if bt145.2.2 = true then (some (bt145.1 == 2 && (bt145.2.1 == 0))) else (some false))))))
theorem quoinlaw23_alive.mono : ∀ k,LeO (quoinlaw23_alive.f k ) (quoinlaw23_alive.f (k + 1) ) := by
 intro  k;unfold quoinlaw23_alive.f
 repeat' first
   | (with_reducible exact quoinlaw23_kept.mono _ _)
   | (with_reducible exact quoinlaw23_stands.mono _ _)
   | (with_reducible exact LeO.refl _)
   | (with_reducible exact LeO.none _)
   | (with_reducible refine LeO.ite ?_ ?_)
   | (with_reducible refine LeO.bind ?_ (fun _ => ?_))
   | exact quoinlaw23_kept.mono _ _
   | exact quoinlaw23_stands.mono _ _
   | exact LeO.none _
   | refine LeO.ite ?_ ?_
   | refine LeO.bind ?_ (fun _ => ?_)
set_option maxHeartbeats 8000000 in
set_option maxRecDepth 100000 in
theorem quoinlaw23_alive.calls (k : Nat)  (r : Bool) (w : World) (hG : GlobOK w) (h : quoinlaw23_alive.f k  = some r) :
  Calls Tryd.prog 8 #[] w fun e w' => e = .returned (.bool r) ∧ Below w.heap.size w w' := by
 have hu43 := Tryd.underlying43;have HB := am0 (Below.refl w.heap.size w);have H : ((quoinlaw23_lack.f).bind fun bt120 => ((quoinlaw23_weak.f).bind fun bt126 => ((quoinlaw23_strong.f).bind fun bt132 => ((quoinlaw23_kept.f k (([(⟨bt120.1,bt120.2.1,bt120.2.2.1,bt120.2.2.2.1,bt120.2.2.2.2.1,bt120.2.2.2.2.2⟩ : S40),(⟨bt126.1,bt126.2.1,bt126.2.2.1,bt126.2.2.2.1,bt126.2.2.2.2.1,bt126.2.2.2.2.2⟩ : S40),(⟨bt132.1,bt132.2.1,bt132.2.2.1,bt132.2.2.2.1,bt132.2.2.2.2.1,bt132.2.2.2.2.2⟩ : S40)] : List (S40)))).bind fun bt141 => ((quoinlaw23_stands.f k bt141.1).bind fun bt145 => (if bt145.2.2 = true then (some (bt145.1 == 2 && (bt145.2.1 == 0))) else (some false))))))) = some r := h;clear h;replace H := Option.bind_eq_some_iff.mp H;obtain ⟨⟨t120,t121,t122,t123,t124,t125⟩,A10,H⟩ := H;replace H : ((quoinlaw23_weak.f).bind fun bt126 => ((quoinlaw23_strong.f).bind fun bt132 => ((quoinlaw23_kept.f k (([(⟨t120,t121,t122,t123,t124,t125⟩ : S40),(⟨bt126.1,bt126.2.1,bt126.2.2.1,bt126.2.2.2.1,bt126.2.2.2.2.1,bt126.2.2.2.2.2⟩ : S40),(⟨bt132.1,bt132.2.1,bt132.2.2.1,bt132.2.2.2.1,bt132.2.2.2.2.1,bt132.2.2.2.2.2⟩ : S40)] : List (S40)))).bind fun bt141 => ((quoinlaw23_stands.f k bt141.1).bind fun bt145 => (if bt145.2.2 = true then (some (bt145.1 == 2 && (bt145.2.1 == 0))) else (some false)))))) = some r := H;have A1 := am0 A10;clear A10;replace H := Option.bind_eq_some_iff.mp H;obtain ⟨⟨t126,t127,t128,t129,t130,t131⟩,A20,H⟩ := H;replace H : ((quoinlaw23_strong.f).bind fun bt132 => ((quoinlaw23_kept.f k (([(⟨t120,t121,t122,t123,t124,t125⟩ : S40),(⟨t126,t127,t128,t129,t130,t131⟩ : S40),(⟨bt132.1,bt132.2.1,bt132.2.2.1,bt132.2.2.2.1,bt132.2.2.2.2.1,bt132.2.2.2.2.2⟩ : S40)] : List (S40)))).bind fun bt141 => ((quoinlaw23_stands.f k bt141.1).bind fun bt145 => (if bt145.2.2 = true then (some (bt145.1 == 2 && (bt145.2.1 == 0))) else (some false))))) = some r := H;have A2 := am0 A20;clear A20;replace H := Option.bind_eq_some_iff.mp H;obtain ⟨⟨t132,t133,t134,t135,t136,t137⟩,A30,H⟩ := H;replace H : ((quoinlaw23_kept.f k (([(⟨t120,t121,t122,t123,t124,t125⟩ : S40),(⟨t126,t127,t128,t129,t130,t131⟩ : S40),(⟨t132,t133,t134,t135,t136,t137⟩ : S40)] : List (S40)))).bind fun bt141 => ((quoinlaw23_stands.f k bt141.1).bind fun bt145 => (if bt145.2.2 = true then (some (bt145.1 == 2 && (bt145.2.1 == 0))) else (some false)))) = some r := H;have A3 := am0 A30;clear A30;obtain ⟨y138,hy138⟩ : ∃ y_ : List (S40),y_ = (([(⟨t120,t121,t122,t123,t124,t125⟩ : S40),(⟨t126,t127,t128,t129,t130,t131⟩ : S40),(⟨t132,t133,t134,t135,t136,t137⟩ : S40)] : List (S40))) := ⟨_,rfl⟩;replace H : ((quoinlaw23_kept.f k y138).bind fun bt141 => ((quoinlaw23_stands.f k bt141.1).bind fun bt145 => (if bt145.2.2 = true then (some (bt145.1 == 2 && (bt145.2.1 == 0))) else (some false)))) = some r := by first | (rw [hy138];with_reducible exact H) | (have H2_ := (Option.bind_some _ _).symm.trans H;rw [hy138];with_reducible exact H2_) | (have H2_ := (Option.bind_some _ _).symm.trans H;with_reducible exact H2_) | with_reducible exact H | (rw [hy138];exact H) | exact H
 have Ny138 := am0 hy138;clear hy138;replace H := Option.bind_eq_some_iff.mp H;obtain ⟨⟨t141,t144⟩,A40,H⟩ := H;replace H : ((quoinlaw23_stands.f k t141).bind fun bt145 => (if bt145.2.2 = true then (some (bt145.1 == 2 && (bt145.2.1 == 0))) else (some false))) = some r := H;have A4 := am0 A40;clear A40;replace H := Option.bind_eq_some_iff.mp H;obtain ⟨⟨t145,t146,t147⟩,A50,H⟩ := H;replace H : (if t147 = true then (some (t145 == 2 && (t146 == 0))) else (some false)) = some r := H;have A5 := am0 A50;clear A50
 by_cases c6 : t147 = true
 ·subst c6
  have H1 : (some (t145 == 2 && (t146 == 0))) = some r := by rw [if_pos rfl] at H;exact H
  clear H;have H := H1;clear H1;obtain rfl := Option.some.inj H;go_enter Tryd.func8,Tryd.ntmps8
  go_wp2_with (first | ((with_reducible refine gate_callee (f := 17) rfl ?_);refine goesL_ (some 4) rfl rfl Tryd.func17 (by kernel_rfl) rfl #[] rfl (by (try simp only [List.map_toArray,List.map_cons,List.map_nil]);first | done | rfl | (simp only [List.length_drop,List.length_take];rfl)) ?_;(with_reducible refine (quoinlaw23_lack.calls  t120 t121 t122 t123 t124 t125 _ A1.out).mono ?_);rintro e w7 ⟨rfl,hb⟩;refine ⟨_,rfl, ?_⟩;have n0_ := am0 (below_step (by repeat (first | (with_reducible first | exact HB.out | apply below_alloc | apply pw_below_drewN | apply below_drew1) | exact HB.out)) hb);clear HB;have HB := n0_;clear n0_;(try clear hb);(try clear hb2);(try clear hk);(try clear hi)) | ((with_reducible refine gate_callee (f := 15) rfl ?_);refine goesL_ (some 5) rfl rfl Tryd.func15 (by kernel_rfl) rfl #[] rfl (by (try simp only [List.map_toArray,List.map_cons,List.map_nil]);first | done | rfl | (simp only [List.length_drop,List.length_take];rfl)) ?_;(with_reducible refine (quoinlaw23_weak.calls  t126 t127 t128 t129 t130 t131 _ A2.out).mono ?_);rintro e w8 ⟨rfl,hb⟩;refine ⟨_,rfl, ?_⟩;have n0_ := am0 (below_step (by repeat (first | (with_reducible first | exact HB.out | apply below_alloc | apply pw_below_drewN | apply below_drew1) | exact HB.out)) hb);clear HB;have HB := n0_;clear n0_;(try clear hb);(try clear hb2);(try clear hk);(try clear hi)) | ((with_reducible refine gate_callee (f := 16) rfl ?_);refine goesL_ (some 6) rfl rfl Tryd.func16 (by kernel_rfl) rfl #[] rfl (by (try simp only [List.map_toArray,List.map_cons,List.map_nil]);first | done | rfl | (simp only [List.length_drop,List.length_take];rfl)) ?_;(with_reducible refine (quoinlaw23_strong.calls  t132 t133 t134 t135 t136 t137 _ A3.out).mono ?_);rintro e w9 ⟨rfl,hb⟩;refine ⟨_,rfl, ?_⟩;have n0_ := am0 (below_step (by repeat (first | (with_reducible first | exact HB.out | apply below_alloc | apply pw_below_drewN | apply below_drew1) | exact HB.out)) hb);clear HB;have HB := n0_;clear n0_;(try clear hb);(try clear hb2);(try clear hk);(try clear hi)) | ((with_reducible refine gate_dst (N := 7) rfl ?_);refine Kd.R_lit k40 _ 40 ?hg (N := 7) ?hd (xs := ([(⟨t120,t121,t122,t123,t124,t125⟩ : S40),(⟨t126,t127,t128,t129,t130,t131⟩ : S40),(⟨t132,t133,t134,t135,t136,t137⟩ : S40)] : List (S40))) (inner := [.string t120, .int .u8 t121, .bool t122, .int .i64 t123, .int .i64 t124, .int .i64 t125, .string t126, .int .u8 t127, .bool t128, .int .i64 t129, .int .i64 t130, .int .i64 t131, .string t132, .int .u8 t133, .bool t134, .int .i64 t135, .int .i64 t136, .int .i64 t137]) (ok := fun _ => True) (okp := fun _ => True) ?hr ?hp (fun _ hk => hk) trivial (Below.refl _ _) (Nat.le_refl _) (by simp) ?_;(case hd => rfl);(case hg => rfl);(case hr => first | (go_simp;done) | (go_simp;rfl));(case hp => exact (Reps.c6 (show Kd.M k40 _ _ _ (⟨t120,t121,t122,t123,t124,t125⟩ : S40) [.string t120, .int .u8 t121, .bool t122, .int .i64 t123, .int .i64 t124, .int .i64 t125] from (k40_mkM _ _ _ (⟨t120,t121,t122,t123,t124,t125⟩ : S40) )) (Reps.c6 (show Kd.M k40 _ _ _ (⟨t126,t127,t128,t129,t130,t131⟩ : S40) [.string t126, .int .u8 t127, .bool t128, .int .i64 t129, .int .i64 t130, .int .i64 t131] from (k40_mkM _ _ _ (⟨t126,t127,t128,t129,t130,t131⟩ : S40) )) (Reps.c6 (show Kd.M k40 _ _ _ (⟨t132,t133,t134,t135,t136,t137⟩ : S40) [.string t132, .int .u8 t133, .bool t134, .int .i64 t135, .int .i64 t136, .int .i64 t137] from (k40_mkM _ _ _ (⟨t132,t133,t134,t135,t136,t137⟩ : S40) )) (Reps.none _ _)))));intro v139 w10 ho11 hb hg_ hnew_;clear hg_ hnew_;(first | rw [← Ny138.out] at ho11 | (simp only [Int.reduceToNat] at ho11;rw [← Ny138.out] at ho11));have n0_ := am0 (Kd.R_lower ho11 (below_size (by repeat (first | (with_reducible first | exact HB.out | apply below_alloc | apply pw_below_drewN | apply below_drew1) | exact HB.out))));have n1_ := am0 (below_step (by repeat (first | (with_reducible first | exact HB.out | apply below_alloc | apply pw_below_drewN | apply below_drew1) | exact HB.out)) hb);clear HB;have HO140 := n0_;have HB := n1_;clear n0_ n1_;clear hb ho11;obtain ⟨Ao12,co12,eo12⟩ := Kd.R_slice HO140.out;subst eo12) | ((with_reducible refine gate_callee (f := 13) rfl ?_);refine goesL_ (some 8) rfl rfl Tryd.func13 (by kernel_rfl) rfl #[.slice Ao12 y138.length co12] rfl (by (try simp only [List.map_toArray,List.map_cons,List.map_nil]);first | done | rfl | (simp only [List.length_drop,List.length_take];rfl)) ?_;(with_reducible refine (quoinlaw23_kept.calls k (fun k_ => some k_ = (.slice Ao12 y138.length co12 : Value).ownBlock) (.slice Ao12 y138.length co12) y138 t141 t144 w _ ?side1 ?side2 A4.out).mono ?_);(case side1 => repeat (first | (with_reducible first | exact HB.out | apply below_alloc | apply pw_below_drewN | apply below_drew1) | exact HB.out));(case side2 => exact Kd.R_tight rfl HO140.out);rintro e w13 ⟨v142,rfl,ho0,hy0,hb,hkp⟩;refine ⟨_,rfl, ?_⟩;have n0_ := am0 (Kd.R_reok rfl hy0 (fun k_ e_ => HO140.out.1 k_ e_));have n1_ := am0 (Kd.N_lower (Kd.N_mono (ok' := fun k_ => some k_ ≠ (.slice Ao12 y138.length co12 : Value).ownBlock) ho0 (fun k_ hk_ => hk_.2)) (below_size (by repeat (first | (with_reducible first | exact HB.out | apply below_alloc | apply pw_below_drewN | apply below_drew1) | exact HB.out))));have n2_ := am0 (hb);clear HO140;clear HB;have HO140 := n0_;have HO143 := n1_;have HB := n2_;clear n0_ n1_ n2_;(try clear hb);(try clear hkp);(try clear ho0);(try clear hy0);obtain ⟨Ao14,co14,eo14⟩ := Kd.N_slice HO143.out;subst eo14) | ((with_reducible refine gate_callee (f := 12) rfl ?_);refine goesL_ (some 9) rfl rfl Tryd.func12 (by kernel_rfl) rfl #[.slice Ao14 t141.length co14] rfl (by (try simp only [List.map_toArray,List.map_cons,List.map_nil]);first | done | rfl | (simp only [List.length_drop,List.length_take];rfl)) ?_;(with_reducible refine (quoinlaw23_stands.calls k _ _ t141 t145 t146 true _ ?side3 ?side1 ?side2 A5.out).mono ?_);(case side1 => repeat (first | exact (Kd.N_reads' HO143.out).2.2 | (with_reducible refine Kd.C_alloc ?_ _) | (with_reducible refine Kd.C_drewN ?_ _) | (with_reducible refine Kd.C_drew ?_)));(case side2 => exact (Kd.N_reads' HO143.out).2.1);(case side3 => exact GlobOK.below hG (by repeat (first | (with_reducible first | exact HB.out | apply below_alloc | apply pw_below_drewN | apply below_drew1) | exact HB.out)));rintro e w15 ⟨rfl,hb⟩;refine ⟨_,rfl, ?_⟩;have n0_ := am0 (Kd.R_below (by (with_reducible repeat (first | apply Kd.R_alloc | apply Kd.R_drewN | apply Kd.R_drew));exact HO140.out) hb);have n1_ := am0 (Kd.N_below (by (with_reducible repeat (first | apply Kd.N_alloc | apply Kd.N_drewN | apply Kd.N_drew));exact HO143.out) hb);have n2_ := am0 (below_step (by repeat (first | (with_reducible first | exact HB.out | apply below_alloc | apply pw_below_drewN | apply below_drew1) | exact HB.out)) hb);clear HO140;clear HO143;clear HB;have HO140 := n0_;have HO143 := n1_;have HB := n2_;clear n0_ n1_ n2_;(try clear hb);(try clear hb2);(try clear hk);(try clear hi)) | ((with_reducible refine gate_dst (N := 1) rfl ?_);refine box_event ?hg (N := 1) ?hd (cs := #[.int .i64 0, .int .i64 0]) (t := 43) ?hr ?_;(case hd => rfl);(case hg => rfl);(case hr => first | (go_simp;done) | (go_simp;rfl));intro gb148 hg w16 hbox hb;have n0_ := am0 (Kd.R_below (by (with_reducible repeat (first | apply Kd.R_alloc | apply Kd.R_drewN | apply Kd.R_drew));exact HO140.out) hb);have n1_ := am0 (Kd.N_below (Kd.N_elderB (by (with_reducible repeat (first | apply Kd.N_alloc | apply Kd.N_drewN | apply Kd.N_drew));exact HO143.out) gb148 (Nat.le_of_eq hg.symm)) hb);have n2_ := am0 (below_step (by repeat (first | (with_reducible first | exact HB.out | apply below_alloc | apply pw_below_drewN | apply below_drew1) | exact HB.out)) hb);have n3_ := am0 (hbox);have n4_ := am0 ((by rw [hg];exact (below_size (by repeat (first | (with_reducible first | exact HB.out | apply below_alloc | apply pw_below_drewN | apply below_drew1) | exact HB.out))) : w.heap.size ≤ gb148));have n5_ := am0 ((by rw [hg];exact (below_size (by repeat (first | (with_reducible first | exact HB.out | apply below_alloc | apply pw_below_drewN | apply below_drew1) | exact HB.out))) : w.heap.size ≤ gb148));clear HO140;clear HO143;clear HB;have HO140 := n0_;have HO143 := n1_;have HB := n2_;have BK148 := n3_;have GW148 := n4_;have GE148 := n5_;clear n0_ n1_ n2_ n3_ n4_ n5_;clear hb hbox hg;have hcz17_0 : w16.cell? ⟨gb148,0,none⟩ = some (.int .i64 0) := (blk_cell BK148.out 0).trans rfl;have hcz17_1 : w16.cell? ⟨gb148,1,none⟩ = some (.int .i64 0) := (blk_cell BK148.out 1).trans rfl;have hfz17_0 := blk_frozen BK148.out 0;have hfz17_1 := blk_frozen BK148.out 1))
  go_ret
  exact ⟨by first | rfl | (simp [errW_none,errW_some] <;> rfl) | (simp [*,errW_none,errW_some] <;> rfl),by repeat (first | (with_reducible first | exact HB.out | apply below_alloc | apply pw_below_drewN | apply below_drew1 | refine below_set ?_ GE148.out) | exact HB.out)⟩
 replace c6 := Bool.eq_false_iff.mpr c6;subst c6;have H1 : (some false) = some r := by rw [if_neg (show ¬ (false = true) by decide)] at H;exact H
 clear H;have H := H1;clear H1;obtain rfl := Option.some.inj H;go_enter Tryd.func8,Tryd.ntmps8
 go_wp2_with (first | ((with_reducible refine gate_callee (f := 17) rfl ?_);refine goesL_ (some 4) rfl rfl Tryd.func17 (by kernel_rfl) rfl #[] rfl (by (try simp only [List.map_toArray,List.map_cons,List.map_nil]);first | done | rfl | (simp only [List.length_drop,List.length_take];rfl)) ?_;(with_reducible refine (quoinlaw23_lack.calls  t120 t121 t122 t123 t124 t125 _ A1.out).mono ?_);rintro e w18 ⟨rfl,hb⟩;refine ⟨_,rfl, ?_⟩;have n0_ := am0 (below_step (by repeat (first | (with_reducible first | exact HB.out | apply below_alloc | apply pw_below_drewN | apply below_drew1) | exact HB.out)) hb);clear HB;have HB := n0_;clear n0_;(try clear hb);(try clear hb2);(try clear hk);(try clear hi)) | ((with_reducible refine gate_callee (f := 15) rfl ?_);refine goesL_ (some 5) rfl rfl Tryd.func15 (by kernel_rfl) rfl #[] rfl (by (try simp only [List.map_toArray,List.map_cons,List.map_nil]);first | done | rfl | (simp only [List.length_drop,List.length_take];rfl)) ?_;(with_reducible refine (quoinlaw23_weak.calls  t126 t127 t128 t129 t130 t131 _ A2.out).mono ?_);rintro e w19 ⟨rfl,hb⟩;refine ⟨_,rfl, ?_⟩;have n0_ := am0 (below_step (by repeat (first | (with_reducible first | exact HB.out | apply below_alloc | apply pw_below_drewN | apply below_drew1) | exact HB.out)) hb);clear HB;have HB := n0_;clear n0_;(try clear hb);(try clear hb2);(try clear hk);(try clear hi)) | ((with_reducible refine gate_callee (f := 16) rfl ?_);refine goesL_ (some 6) rfl rfl Tryd.func16 (by kernel_rfl) rfl #[] rfl (by (try simp only [List.map_toArray,List.map_cons,List.map_nil]);first | done | rfl | (simp only [List.length_drop,List.length_take];rfl)) ?_;(with_reducible refine (quoinlaw23_strong.calls  t132 t133 t134 t135 t136 t137 _ A3.out).mono ?_);rintro e w20 ⟨rfl,hb⟩;refine ⟨_,rfl, ?_⟩;have n0_ := am0 (below_step (by repeat (first | (with_reducible first | exact HB.out | apply below_alloc | apply pw_below_drewN | apply below_drew1) | exact HB.out)) hb);clear HB;have HB := n0_;clear n0_;(try clear hb);(try clear hb2);(try clear hk);(try clear hi)) | ((with_reducible refine gate_dst (N := 7) rfl ?_);refine Kd.R_lit k40 _ 40 ?hg (N := 7) ?hd (xs := ([(⟨t120,t121,t122,t123,t124,t125⟩ : S40),(⟨t126,t127,t128,t129,t130,t131⟩ : S40),(⟨t132,t133,t134,t135,t136,t137⟩ : S40)] : List (S40))) (inner := [.string t120, .int .u8 t121, .bool t122, .int .i64 t123, .int .i64 t124, .int .i64 t125, .string t126, .int .u8 t127, .bool t128, .int .i64 t129, .int .i64 t130, .int .i64 t131, .string t132, .int .u8 t133, .bool t134, .int .i64 t135, .int .i64 t136, .int .i64 t137]) (ok := fun _ => True) (okp := fun _ => True) ?hr ?hp (fun _ hk => hk) trivial (Below.refl _ _) (Nat.le_refl _) (by simp) ?_;(case hd => rfl);(case hg => rfl);(case hr => first | (go_simp;done) | (go_simp;rfl));(case hp => exact (Reps.c6 (show Kd.M k40 _ _ _ (⟨t120,t121,t122,t123,t124,t125⟩ : S40) [.string t120, .int .u8 t121, .bool t122, .int .i64 t123, .int .i64 t124, .int .i64 t125] from (k40_mkM _ _ _ (⟨t120,t121,t122,t123,t124,t125⟩ : S40) )) (Reps.c6 (show Kd.M k40 _ _ _ (⟨t126,t127,t128,t129,t130,t131⟩ : S40) [.string t126, .int .u8 t127, .bool t128, .int .i64 t129, .int .i64 t130, .int .i64 t131] from (k40_mkM _ _ _ (⟨t126,t127,t128,t129,t130,t131⟩ : S40) )) (Reps.c6 (show Kd.M k40 _ _ _ (⟨t132,t133,t134,t135,t136,t137⟩ : S40) [.string t132, .int .u8 t133, .bool t134, .int .i64 t135, .int .i64 t136, .int .i64 t137] from (k40_mkM _ _ _ (⟨t132,t133,t134,t135,t136,t137⟩ : S40) )) (Reps.none _ _)))));intro v139 w21 ho22 hb hg_ hnew_;clear hg_ hnew_;(first | rw [← Ny138.out] at ho22 | (simp only [Int.reduceToNat] at ho22;rw [← Ny138.out] at ho22));have n0_ := am0 (Kd.R_lower ho22 (below_size (by repeat (first | (with_reducible first | exact HB.out | apply below_alloc | apply pw_below_drewN | apply below_drew1) | exact HB.out))));have n1_ := am0 (below_step (by repeat (first | (with_reducible first | exact HB.out | apply below_alloc | apply pw_below_drewN | apply below_drew1) | exact HB.out)) hb);clear HB;have HO140 := n0_;have HB := n1_;clear n0_ n1_;clear hb ho22;obtain ⟨Ao23,co23,eo23⟩ := Kd.R_slice HO140.out;subst eo23) | ((with_reducible refine gate_callee (f := 13) rfl ?_);refine goesL_ (some 8) rfl rfl Tryd.func13 (by kernel_rfl) rfl #[.slice Ao23 y138.length co23] rfl (by (try simp only [List.map_toArray,List.map_cons,List.map_nil]);first | done | rfl | (simp only [List.length_drop,List.length_take];rfl)) ?_;(with_reducible refine (quoinlaw23_kept.calls k (fun k_ => some k_ = (.slice Ao23 y138.length co23 : Value).ownBlock) (.slice Ao23 y138.length co23) y138 t141 t144 w _ ?side1 ?side2 A4.out).mono ?_);(case side1 => repeat (first | (with_reducible first | exact HB.out | apply below_alloc | apply pw_below_drewN | apply below_drew1) | exact HB.out));(case side2 => exact Kd.R_tight rfl HO140.out);rintro e w24 ⟨v142,rfl,ho0,hy0,hb,hkp⟩;refine ⟨_,rfl, ?_⟩;have n0_ := am0 (Kd.R_reok rfl hy0 (fun k_ e_ => HO140.out.1 k_ e_));have n1_ := am0 (Kd.N_lower (Kd.N_mono (ok' := fun k_ => some k_ ≠ (.slice Ao23 y138.length co23 : Value).ownBlock) ho0 (fun k_ hk_ => hk_.2)) (below_size (by repeat (first | (with_reducible first | exact HB.out | apply below_alloc | apply pw_below_drewN | apply below_drew1) | exact HB.out))));have n2_ := am0 (hb);clear HO140;clear HB;have HO140 := n0_;have HO143 := n1_;have HB := n2_;clear n0_ n1_ n2_;(try clear hb);(try clear hkp);(try clear ho0);(try clear hy0);obtain ⟨Ao25,co25,eo25⟩ := Kd.N_slice HO143.out;subst eo25) | ((with_reducible refine gate_callee (f := 12) rfl ?_);refine goesL_ (some 9) rfl rfl Tryd.func12 (by kernel_rfl) rfl #[.slice Ao25 t141.length co25] rfl (by (try simp only [List.map_toArray,List.map_cons,List.map_nil]);first | done | rfl | (simp only [List.length_drop,List.length_take];rfl)) ?_;(with_reducible refine (quoinlaw23_stands.calls k _ _ t141 t145 t146 false _ ?side3 ?side1 ?side2 A5.out).mono ?_);(case side1 => repeat (first | exact (Kd.N_reads' HO143.out).2.2 | (with_reducible refine Kd.C_alloc ?_ _) | (with_reducible refine Kd.C_drewN ?_ _) | (with_reducible refine Kd.C_drew ?_)));(case side2 => exact (Kd.N_reads' HO143.out).2.1);(case side3 => exact GlobOK.below hG (by repeat (first | (with_reducible first | exact HB.out | apply below_alloc | apply pw_below_drewN | apply below_drew1) | exact HB.out)));rintro e w26 ⟨rfl,hb⟩;refine ⟨_,rfl, ?_⟩;have n0_ := am0 (Kd.R_below (by (with_reducible repeat (first | apply Kd.R_alloc | apply Kd.R_drewN | apply Kd.R_drew));exact HO140.out) hb);have n1_ := am0 (Kd.N_below (by (with_reducible repeat (first | apply Kd.N_alloc | apply Kd.N_drewN | apply Kd.N_drew));exact HO143.out) hb);have n2_ := am0 (below_step (by repeat (first | (with_reducible first | exact HB.out | apply below_alloc | apply pw_below_drewN | apply below_drew1) | exact HB.out)) hb);clear HO140;clear HO143;clear HB;have HO140 := n0_;have HO143 := n1_;have HB := n2_;clear n0_ n1_ n2_;(try clear hb);(try clear hb2);(try clear hk);(try clear hi)) | ((with_reducible refine gate_dst (N := 1) rfl ?_);refine box_event ?hg (N := 1) ?hd (cs := #[.int .i64 0, .int .i64 0]) (t := 43) ?hr ?_;(case hd => rfl);(case hg => rfl);(case hr => first | (go_simp;done) | (go_simp;rfl));intro gb148 hg w27 hbox hb;have n0_ := am0 (Kd.R_below (by (with_reducible repeat (first | apply Kd.R_alloc | apply Kd.R_drewN | apply Kd.R_drew));exact HO140.out) hb);have n1_ := am0 (Kd.N_below (Kd.N_elderB (by (with_reducible repeat (first | apply Kd.N_alloc | apply Kd.N_drewN | apply Kd.N_drew));exact HO143.out) gb148 (Nat.le_of_eq hg.symm)) hb);have n2_ := am0 (below_step (by repeat (first | (with_reducible first | exact HB.out | apply below_alloc | apply pw_below_drewN | apply below_drew1) | exact HB.out)) hb);have n3_ := am0 (hbox);have n4_ := am0 ((by rw [hg];exact (below_size (by repeat (first | (with_reducible first | exact HB.out | apply below_alloc | apply pw_below_drewN | apply below_drew1) | exact HB.out))) : w.heap.size ≤ gb148));have n5_ := am0 ((by rw [hg];exact (below_size (by repeat (first | (with_reducible first | exact HB.out | apply below_alloc | apply pw_below_drewN | apply below_drew1) | exact HB.out))) : w.heap.size ≤ gb148));clear HO140;clear HO143;clear HB;have HO140 := n0_;have HO143 := n1_;have HB := n2_;have BK148 := n3_;have GW148 := n4_;have GE148 := n5_;clear n0_ n1_ n2_ n3_ n4_ n5_;clear hb hbox hg;have hcz28_0 : w27.cell? ⟨gb148,0,none⟩ = some (.int .i64 0) := (blk_cell BK148.out 0).trans rfl;have hcz28_1 : w27.cell? ⟨gb148,1,none⟩ = some (.int .i64 0) := (blk_cell BK148.out 1).trans rfl;have hfz28_0 := blk_frozen BK148.out 0;have hfz28_1 := blk_frozen BK148.out 1))
 go_ret
 exact ⟨by first | rfl | (simp [errW_none,errW_some] <;> rfl) | (simp [*,errW_none,errW_some] <;> rfl),by repeat (first | (with_reducible first | exact HB.out | apply below_alloc | apply pw_below_drewN | apply below_drew1 | refine below_set ?_ GE148.out) | exact HB.out)⟩
end Go.Proofs.YtalomolellcefaaDoor.Q
namespace Go.Proofs.YtalomolellcefaaDoor.Q
open Go.RowKit Go.Proofs.YtalomolellcefaaDoorW.PrintWords Go.Proofs.YtalomolellcefaaDoorW.PrintLast Go.Proofs.YtalomolellcefaaDoorW.PrintMore Go.Proofs.YtalomolellcefaaDoor.Maps
section
variable {secs : List S72} {syms : List S40} {relas : List S94} {groups : List S68}
theorem elf_more {k : Nat} {v : Int} (h : elfw_Check.f k secs syms relas groups = some v) : ∀ n,elfw_Check.f (k + n) secs syms relas groups = some v
 | 0 => h
 | n + 1 => elfw_Check.mono secs syms relas groups (k + n) v (elf_more h n)
theorem elfV_eq (hO : ObjFit secs syms relas groups) {k : Nat} {v : Int} (h : elfw_Check.f k secs syms relas groups = some v) : elfV secs syms relas groups = v := by
 obtain ⟨⟨k',h'⟩,_⟩ := elf_val hO;have h1 := elf_more h k';have h2 := elf_more h' k;rw [Nat.add_comm] at h2;rw [h1] at h2;exact (Option.some.inj h2).symm
end
def oneSym (i : Int) (s : S40) : S38 := ⟨i, -1,⟨[],[s],[],[]⟩,[]⟩
abbrev nameF : ByteArray := ⟨#[102]⟩
theorem fit_one (i : Int) (s : S40) : KeptFit (oneSym i s) :=
 ⟨(by decide : (0 : Nat) < 1099511627776),fun s h => by simp [oneSym] at h,(by decide : (1 : Nat) < 1099511627776),fun r h => by simp [oneSym] at h,rfl⟩
theorem elf_lack : elfw_Check.f 60 [] [⟨nameF,1,false,0,0,0⟩] [] [] = some 0 := by rfl
theorem elf_weak : elfw_Check.f 60 [] [⟨nameF,2,false, -1,0,0⟩] [] [] = some 0 := by rfl
theorem elf_strong : elfw_Check.f 60 [] [⟨nameF,1,false, -1,0,0⟩] [] [] = some 0 := by rfl
theorem keptElf_one {i : Int} {s : S40} (h : elfw_Check.f 60 [] [s] [] [] = some 0) : keptElf (oneSym i s) = 0 := elfV_eq (fit_one i s) h
theorem check_one {i : Int} {s : S40} {l : List S38} {n : Nat} {f : ByteArray → Option Int} (h : elfw_Check.f 60 [] [s] [] [] = some 0) : checkGo (oneSym i s :: l) n f = checkGo l (n + 1) f := by
 rw [checkGo_ok (by rintro (h1 | h1);exact h1 (keptElf_one h);exact h1 rfl) rfl];rfl
def aliveL : List S38 := [oneSym 0 ⟨nameF,1,false,0,0,0⟩,oneSym 1 ⟨nameF,2,false, -1,0,0⟩,oneSym 2 ⟨nameF,1,false, -1,0,0⟩]
theorem alive_fit : ∀ k ∈ aliveL,KeptFit k := by
 intro k hk;simp only [aliveL,List.mem_cons,List.not_mem_nil,or_false] at hk;rcases hk with rfl | rfl | rfl <;> exact fit_one _ _
theorem alive_check : resCheckV aliveL = 0 := by
 unfold resCheckV aliveL;rw [if_neg (by decide),check_one elf_lack,check_one elf_weak,check_one elf_strong];rfl
theorem alive_read : readV aliveL = (upd (upd (fun _ => none) nameF ⟨1,0,0,1,0,0,true⟩) nameF ⟨2,0,0,2,0,1,true⟩,upd (fun _ => none) nameF 1) := by kernel_rfl
theorem alive_double : ¬ doubleV (readV aliveL) := by
 rintro ⟨s,d,h,hlt⟩
 rw [alive_read] at h
 by_cases hs : s = nameF
 ·simp only [upd,if_pos hs] at h
  have := Option.some.inj h;subst this;exact absurd hlt (by decide)
 simp only [upd,if_neg hs] at h;cases h
theorem alive_lacks : lacksV (readV aliveL) = [] := by
 refine lacksV_eq (r := []) ⟨List.Pairwise.nil,fun s => ⟨fun h => by simp at h,fun h => ?_⟩⟩;exfalso;rw [alive_read] at h;obtain ⟨h1,h2⟩ := h
 by_cases hs : s = nameF
 ·simp only [upd,if_pos hs] at h2
  cases h2
 simp only [upd,if_neg hs] at h1;cases h1
theorem alive_bind : resolve_Bind.f aliveL = some ([[⟨2,0⟩],[⟨2,0⟩],[⟨2,0⟩]],0) := by
 unfold resolve_Bind.f bindV;rw [if_pos alive_fit,if_pos alive_check,if_neg alive_double,if_pos alive_lacks,alive_read];rfl
theorem alive_kept : quoinlaw23_kept.f 60 [⟨⟨#[]⟩,1,false,0,0,0⟩,⟨⟨#[]⟩,2,false, -1,0,0⟩,⟨⟨#[]⟩,1,false, -1,0,0⟩] = some (aliveL,[⟨nameF,1,false,0,0,0⟩,⟨nameF,2,false, -1,0,0⟩,⟨nameF,1,false, -1,0,0⟩]) := by kernel_rfl
theorem alive_stands : quoinlaw23_stands.f 60 aliveL = some (2,0,true) := by
 unfold quoinlaw23_stands.f;rw [alive_bind];rfl
theorem alive_true : quoinlaw23_alive.f 60 = some true := by
 unfold quoinlaw23_alive.f;simp only [quoinlaw23_lack.f,quoinlaw23_weak.f,quoinlaw23_strong.f,Option.bind_some];have h := alive_kept;have h2 := alive_stands
 first
  | (rw [h];simp only [Option.bind_some];rw [h2];rfl)
  | (erw [h];simp only [Option.bind_some];rw [h2];rfl)
end Go.Proofs.YtalomolellcefaaDoor.Q
namespace Go.Proofs.YtalomolellcefaaDoor.Q
open Go.RowKit Go.Proofs.YtalomolellcefaaDoorW.PrintWords Go.Proofs.YtalomolellcefaaDoorW.PrintLast Go.Proofs.YtalomolellcefaaDoorW.PrintMore
attribute [local go_sem] max2_int min2_int max_two min_two
mutual
def quoinref12_Great.j1 : Nat → Int → List (S72) → List (S40) → List (S94) → List (S68) → Option (Bool)
 | 0,_,_,_,_,_ => none
 | k + 1,x3,x150000,x150001,x150002,x150003 => quoinref12_Great.l1 k x3 0 x150000 x150001 x150002 x150003
def quoinref12_Great.j3 : Nat → Int → List (S72) → List (S40) → List (S94) → List (S68) → Option (Bool)
 | 0,_,_,_,_,_ => none
 | k + 1,x3,x150000,x150001,x150002,x150003 => quoinref12_Great.l2 k x3 0 x150000 x150001 x150002 x150003
def quoinref12_Great.l2 : Nat → Int → Int → List (S72) → List (S40) → List (S94) → List (S68) → Option (Bool)
 | 0,_,_,_,_,_,_ => none
 | k + 1,x3,x6,x150000,x150001,x150002,x150003 => if x6 < (x150003.length : Int) then (if x6 < 40 then (if 0 ≤ x6 then (quoinref12_Great.l2 k (wrap64 ((wrap64 (x3 + (mn (((rd_T68 x150003 x6).f0).size : Int) 100000))) + (mn (((rd_T68 x150003 x6).f1).length : Int) 100000))) (wrap64 (x6 + 1)) x150000 x150001 x150002 x150003) else (none)) else (if x3 > 80000 then (some true) else (if (x150000.length : Int) > 30 then (some true) else (if (x150001.length : Int) > 100 then (some true) else (if (x150002.length : Int) > 300 then (some true) else (some (decide ((x150003.length : Int) > 30)))))))) else (if x3 > 80000 then (some true) else (if (x150000.length : Int) > 30 then (some true) else (if (x150001.length : Int) > 100 then (some true) else (if (x150002.length : Int) > 300 then (some true) else (some (decide ((x150003.length : Int) > 30)))))))
def quoinref12_Great.l1 : Nat → Int → Int → List (S72) → List (S40) → List (S94) → List (S68) → Option (Bool)
 | 0,_,_,_,_,_,_ => none
 | k + 1,x3,x5,x150000,x150001,x150002,x150003 => if x5 < (x150001.length : Int) then (if x5 < 200 then (if 0 ≤ x5 then (quoinref12_Great.l1 k (wrap64 (x3 + (mn (((rd_T40 x150001 x5).f0).size : Int) 100000))) (wrap64 (x5 + 1)) x150000 x150001 x150002 x150003) else (none)) else (quoinref12_Great.j3 k x3 x150000 x150001 x150002 x150003)) else (quoinref12_Great.j3 k x3 x150000 x150001 x150002 x150003)
def quoinref12_Great.l0 : Nat → Int → Int → List (S72) → List (S40) → List (S94) → List (S68) → Option (Bool)
 | 0,_,_,_,_,_,_ => none
 | k + 1,x3,x4,x150000,x150001,x150002,x150003 => if x4 < (x150000.length : Int) then (if x4 < 40 then (if 0 ≤ x4 then (quoinref12_Great.l0 k (wrap64 ((wrap64 (x3 + (mn (((rd_T72 x150000 x4).f2).length : Int) 100000))) + (mn (((rd_T72 x150000 x4).f0).size : Int) 100000))) (wrap64 (x4 + 1)) x150000 x150001 x150002 x150003) else (none)) else (quoinref12_Great.j1 k x3 x150000 x150001 x150002 x150003)) else (quoinref12_Great.j1 k x3 x150000 x150001 x150002 x150003)
end
def quoinref12_Great.f (k : Nat) (l0_0 : List (S72)) (l0_1 : List (S40)) (l0_2 : List (S94)) (l0_3 : List (S68)) : Option (Bool) := quoinref12_Great.l0 k 0 0 l0_0 l0_1 l0_2 l0_3
theorem quoinref12_Great.mono_l : ∀ k,(∀ y0 y1 y2 y3 y4,LeO (quoinref12_Great.j1 k y0 y1 y2 y3 y4) (quoinref12_Great.j1 (k + 1) y0 y1 y2 y3 y4)) ∧ (∀ y0 y1 y2 y3 y4,LeO (quoinref12_Great.j3 k y0 y1 y2 y3 y4) (quoinref12_Great.j3 (k + 1) y0 y1 y2 y3 y4)) ∧ (∀ y0 y1 y2 y3 y4 y5,LeO (quoinref12_Great.l2 k y0 y1 y2 y3 y4 y5) (quoinref12_Great.l2 (k + 1) y0 y1 y2 y3 y4 y5)) ∧ (∀ y0 y1 y2 y3 y4 y5,LeO (quoinref12_Great.l1 k y0 y1 y2 y3 y4 y5) (quoinref12_Great.l1 (k + 1) y0 y1 y2 y3 y4 y5)) ∧ (∀ y0 y1 y2 y3 y4 y5,LeO (quoinref12_Great.l0 k y0 y1 y2 y3 y4 y5) (quoinref12_Great.l0 (k + 1) y0 y1 y2 y3 y4 y5))
 | 0 => ⟨fun _ _ _ _ _ r h => by simp [quoinref12_Great.j1] at h,fun _ _ _ _ _ r h => by simp [quoinref12_Great.j3] at h,fun _ _ _ _ _ _ r h => by simp [quoinref12_Great.l2] at h,fun _ _ _ _ _ _ r h => by simp [quoinref12_Great.l1] at h,fun _ _ _ _ _ _ r h => by simp [quoinref12_Great.l0] at h⟩
 | k + 1 => by
  obtain ⟨ih0,ih1,ih2,ih3,ih4⟩ := quoinref12_Great.mono_l k;refine ⟨?_, ?_, ?_, ?_, ?_⟩
  ·intro y0 y1 y2 y3 y4
   unfold quoinref12_Great.j1;repeat' first
   | (with_reducible exact ih0 _ _ _ _ _)
   | (with_reducible exact ih1 _ _ _ _ _)
   | (with_reducible exact ih2 _ _ _ _ _ _)
   | (with_reducible exact ih3 _ _ _ _ _ _)
   | (with_reducible exact ih4 _ _ _ _ _ _)
   | (with_reducible exact LeO.refl _)
   | (with_reducible exact LeO.none _)
   | (with_reducible refine LeO.ite ?_ ?_)
   | (with_reducible refine LeO.bind ?_ (fun _ => ?_))
   | exact ih0 _ _ _ _ _
   | exact ih1 _ _ _ _ _
   | exact ih2 _ _ _ _ _ _
   | exact ih3 _ _ _ _ _ _
   | exact ih4 _ _ _ _ _ _
   | exact LeO.none _
   | refine LeO.ite ?_ ?_
   | refine LeO.bind ?_ (fun _ => ?_)
  ·intro y0 y1 y2 y3 y4
   unfold quoinref12_Great.j3;repeat' first
   | (with_reducible exact ih0 _ _ _ _ _)
   | (with_reducible exact ih1 _ _ _ _ _)
   | (with_reducible exact ih2 _ _ _ _ _ _)
   | (with_reducible exact ih3 _ _ _ _ _ _)
   | (with_reducible exact ih4 _ _ _ _ _ _)
   | (with_reducible exact LeO.refl _)
   | (with_reducible exact LeO.none _)
   | (with_reducible refine LeO.ite ?_ ?_)
   | (with_reducible refine LeO.bind ?_ (fun _ => ?_))
   | exact ih0 _ _ _ _ _
   | exact ih1 _ _ _ _ _
   | exact ih2 _ _ _ _ _ _
   | exact ih3 _ _ _ _ _ _
   | exact ih4 _ _ _ _ _ _
   | exact LeO.none _
   | refine LeO.ite ?_ ?_
   | refine LeO.bind ?_ (fun _ => ?_)
  ·intro y0 y1 y2 y3 y4 y5
   unfold quoinref12_Great.l2;repeat' first
   | (with_reducible exact ih0 _ _ _ _ _)
   | (with_reducible exact ih1 _ _ _ _ _)
   | (with_reducible exact ih2 _ _ _ _ _ _)
   | (with_reducible exact ih3 _ _ _ _ _ _)
   | (with_reducible exact ih4 _ _ _ _ _ _)
   | (with_reducible exact LeO.refl _)
   | (with_reducible exact LeO.none _)
   | (with_reducible refine LeO.ite ?_ ?_)
   | (with_reducible refine LeO.bind ?_ (fun _ => ?_))
   | exact ih0 _ _ _ _ _
   | exact ih1 _ _ _ _ _
   | exact ih2 _ _ _ _ _ _
   | exact ih3 _ _ _ _ _ _
   | exact ih4 _ _ _ _ _ _
   | exact LeO.none _
   | refine LeO.ite ?_ ?_
   | refine LeO.bind ?_ (fun _ => ?_)
  ·intro y0 y1 y2 y3 y4 y5
   unfold quoinref12_Great.l1;repeat' first
   | (with_reducible exact ih0 _ _ _ _ _)
   | (with_reducible exact ih1 _ _ _ _ _)
   | (with_reducible exact ih2 _ _ _ _ _ _)
   | (with_reducible exact ih3 _ _ _ _ _ _)
   | (with_reducible exact ih4 _ _ _ _ _ _)
   | (with_reducible exact LeO.refl _)
   | (with_reducible exact LeO.none _)
   | (with_reducible refine LeO.ite ?_ ?_)
   | (with_reducible refine LeO.bind ?_ (fun _ => ?_))
   | exact ih0 _ _ _ _ _
   | exact ih1 _ _ _ _ _
   | exact ih2 _ _ _ _ _ _
   | exact ih3 _ _ _ _ _ _
   | exact ih4 _ _ _ _ _ _
   | exact LeO.none _
   | refine LeO.ite ?_ ?_
   | refine LeO.bind ?_ (fun _ => ?_)
  intro y0 y1 y2 y3 y4 y5;unfold quoinref12_Great.l0;repeat' first
  | (with_reducible exact ih0 _ _ _ _ _)
  | (with_reducible exact ih1 _ _ _ _ _)
  | (with_reducible exact ih2 _ _ _ _ _ _)
  | (with_reducible exact ih3 _ _ _ _ _ _)
  | (with_reducible exact ih4 _ _ _ _ _ _)
  | (with_reducible exact LeO.refl _)
  | (with_reducible exact LeO.none _)
  | (with_reducible refine LeO.ite ?_ ?_)
  | (with_reducible refine LeO.bind ?_ (fun _ => ?_))
  | exact ih0 _ _ _ _ _
  | exact ih1 _ _ _ _ _
  | exact ih2 _ _ _ _ _ _
  | exact ih3 _ _ _ _ _ _
  | exact ih4 _ _ _ _ _ _
  | exact LeO.none _
  | refine LeO.ite ?_ ?_
  | refine LeO.bind ?_ (fun _ => ?_)
theorem quoinref12_Great.mono : ∀ a0 a1 a2 a3 k,LeO (quoinref12_Great.f k a0 a1 a2 a3) (quoinref12_Great.f (k + 1) a0 a1 a2 a3) := by
 intro a0 a1 a2 a3 k;obtain ⟨ih0,ih1,ih2,ih3,ih4⟩ := quoinref12_Great.mono_l k;unfold quoinref12_Great.f
 repeat' first
   | (with_reducible exact ih0 _ _ _ _ _)
   | (with_reducible exact ih1 _ _ _ _ _)
   | (with_reducible exact ih2 _ _ _ _ _ _)
   | (with_reducible exact ih3 _ _ _ _ _ _)
   | (with_reducible exact ih4 _ _ _ _ _ _)
   | (with_reducible exact LeO.refl _)
   | (with_reducible exact LeO.none _)
   | (with_reducible refine LeO.ite ?_ ?_)
   | (with_reducible refine LeO.bind ?_ (fun _ => ?_))
   | exact ih0 _ _ _ _ _
   | exact ih1 _ _ _ _ _
   | exact ih2 _ _ _ _ _ _
   | exact ih3 _ _ _ _ _ _
   | exact ih4 _ _ _ _ _ _
   | exact LeO.none _
   | refine LeO.ite ?_ ?_
   | refine LeO.bind ?_ (fun _ => ?_)
set_option maxHeartbeats 8000000 in
set_option maxRecDepth 100000 in
theorem quoinref12_Great.calls (k : Nat) (A0_0 : Option Addr) (c0_0 : Nat) (l0_0 : List (S72)) (A0_1 : Option Addr) (c0_1 : Nat) (l0_1 : List (S40)) (A0_2 : Option Addr) (c0_2 : Nat) (l0_2 : List (S94)) (A0_3 : Option Addr) (c0_3 : Nat) (l0_3 : List (S68)) (r : Bool) (w : World) (hr0_0 : Kd.C k72 w A0_0 l0_0.length l0_0) (hc0_0 : l0_0.length ≤ c0_0) (hr0_1 : Kd.C k40 w A0_1 l0_1.length l0_1) (hc0_1 : l0_1.length ≤ c0_1) (hr0_2 : Kd.C k94 w A0_2 l0_2.length l0_2) (hc0_2 : l0_2.length ≤ c0_2) (hr0_3 : Kd.C k68 w A0_3 l0_3.length l0_3) (hc0_3 : l0_3.length ≤ c0_3) (h : quoinref12_Great.f k l0_0 l0_1 l0_2 l0_3 = some r) :
  Calls Tryd.prog 21 #[.agg #[.slice A0_0 l0_0.length c0_0, .slice A0_1 l0_1.length c0_1, .slice A0_2 l0_2.length c0_2, .slice A0_3 l0_3.length c0_3]] w fun e w' => e = .returned (.bool r) ∧ Below w.heap.size w w' := by
 have hu35 := Tryd.underlying35;have HR0_0 := am0 hr0_0;have HC0_0 := am0 hc0_0;clear hr0_0 hc0_0;have HR0_1 := am0 hr0_1;have HC0_1 := am0 hc0_1;clear hr0_1 hc0_1;have HR0_2 := am0 hr0_2;have HC0_2 := am0 hc0_2;clear hr0_2 hc0_2;have HR0_3 := am0 hr0_3;have HC0_3 := am0 hc0_3;clear hr0_3 hc0_3;have HB := am0 (Below.refl w.heap.size w);have H : (quoinref12_Great.l0 k 0 0 l0_0 l0_1 l0_2 l0_3) = some r := h;clear h;have HC2 := am0 H;clear H;go_enter Tryd.func21,Tryd.ntmps21
 go_upto_block 0 with (first | ((with_reducible refine gate_dst (N := 1) rfl ?_);(try (refine gate_guard (by rfl) ?_;dsimp only));refine box_event ?hg (N := 1) ?hd (cs := #[.slice A0_0 l0_0.length c0_0, .slice A0_1 l0_1.length c0_1, .slice A0_2 l0_2.length c0_2, .slice A0_3 l0_3.length c0_3]) (t := 35) ?hr ?_;(case hd => rfl);(case hg => rfl);(case hr => first | (go_simp;done) | (go_simp;rfl));intro gb149 hg w3 hbox hb;have n0_ := am0 (below_step (by repeat (first | (with_reducible first | exact HB.out | apply below_alloc | apply pw_below_drewN | apply below_drew1) | exact HB.out)) hb);have n1_ := am0 (hbox);have n2_ := am0 ((by rw [hg];exact (below_size (by repeat (first | (with_reducible first | exact HB.out | apply below_alloc | apply pw_below_drewN | apply below_drew1) | exact HB.out))) : w.heap.size ≤ gb149));have n3_ := am0 ((by rw [hg];exact (below_size (by repeat (first | (with_reducible first | exact HB.out | apply below_alloc | apply pw_below_drewN | apply below_drew1) | exact HB.out))) : w.heap.size ≤ gb149));clear HB;have HB := n0_;have BK149 := n1_;have GW149 := n2_;have GE149 := n3_;clear n0_ n1_ n2_ n3_;clear hb hbox hg))
 repeat (go_quiet (first | ((with_reducible refine gate_dst (N := 1) rfl ?_);(try (refine gate_guard (by rfl) ?_;dsimp only));refine box_event ?hg (N := 1) ?hd (cs := #[.slice A0_0 l0_0.length c0_0, .slice A0_1 l0_1.length c0_1, .slice A0_2 l0_2.length c0_2, .slice A0_3 l0_3.length c0_3]) (t := 35) ?hr ?_;(case hd => rfl);(case hg => rfl);(case hr => first | (go_simp;done) | (go_simp;rfl));intro gb149 hg w3 hbox hb;have n0_ := am0 (below_step (by repeat (first | (with_reducible first | exact HB.out | apply below_alloc | apply pw_below_drewN | apply below_drew1) | exact HB.out)) hb);have n1_ := am0 (hbox);have n2_ := am0 ((by rw [hg];exact (below_size (by repeat (first | (with_reducible first | exact HB.out | apply below_alloc | apply pw_below_drewN | apply below_drew1) | exact HB.out))) : w.heap.size ≤ gb149));have n3_ := am0 ((by rw [hg];exact (below_size (by repeat (first | (with_reducible first | exact HB.out | apply below_alloc | apply pw_below_drewN | apply below_drew1) | exact HB.out))) : w.heap.size ≤ gb149));clear HB;have HB := n0_;have BK149 := n1_;have GW149 := n2_;have GE149 := n3_;clear n0_ n1_ n2_ n3_;clear hb hbox hg));go_upto_block 0 with (first | ((with_reducible refine gate_dst (N := 1) rfl ?_);(try (refine gate_guard (by rfl) ?_;dsimp only));refine box_event ?hg (N := 1) ?hd (cs := #[.slice A0_0 l0_0.length c0_0, .slice A0_1 l0_1.length c0_1, .slice A0_2 l0_2.length c0_2, .slice A0_3 l0_3.length c0_3]) (t := 35) ?hr ?_;(case hd => rfl);(case hg => rfl);(case hr => first | (go_simp;done) | (go_simp;rfl));intro gb149 hg w3 hbox hb;have n0_ := am0 (below_step (by repeat (first | (with_reducible first | exact HB.out | apply below_alloc | apply pw_below_drewN | apply below_drew1) | exact HB.out)) hb);have n1_ := am0 (hbox);have n2_ := am0 ((by rw [hg];exact (below_size (by repeat (first | (with_reducible first | exact HB.out | apply below_alloc | apply pw_below_drewN | apply below_drew1) | exact HB.out))) : w.heap.size ≤ gb149));have n3_ := am0 ((by rw [hg];exact (below_size (by repeat (first | (with_reducible first | exact HB.out | apply below_alloc | apply pw_below_drewN | apply below_drew1) | exact HB.out))) : w.heap.size ≤ gb149));clear HB;have HB := n0_;have BK149 := n1_;have GW149 := n2_;have GE149 := n3_;clear n0_ n1_ n2_ n3_;clear hb hbox hg)))
 (try simp only [Act.put,List.setIfInBounds_toArray,List.set_cons_zero,List.set_cons_succ])
 go_cut [3] (fun v3 wc => ∃ (kq : Nat) (x3_1 : Int),v3 = .int .i64 x3_1 ∧ Aside0 (quoinref12_Great.j1 kq x3_1 l0_0 l0_1 l0_2 l0_3 = some r) ∧ Aside0 (kq ≤ k) ∧ Aside0 (wc.heap[gb149]? = some (.cells #[(.slice A0_0 l0_0.length c0_0),(.slice A0_1 l0_1.length c0_1),(.slice A0_2 l0_2.length c0_2),(.slice A0_3 l0_3.length c0_3)] 35 (0,0))) ∧ Aside0 (Below w.heap.size w wc))
 case first =>
  have H := HC2.out;clear HC2;have H' := am0 H;clear H;go_wp2
  repeat (go_quiet (fail);try go_wp2)
  go_loopg [3,4] k (fun kq v3 v4 w' => ∃ (x3_1 : Int) (x4_1 : Int),v3 = .int .i64 x3_1 ∧ v4 = .int .i64 x4_1 ∧ Aside0 (quoinref12_Great.l0 kq x3_1 x4_1 l0_0 l0_1 l0_2 l0_3 = some r) ∧ Aside0 (kq ≤ k) ∧ Aside0 (w'.heap[gb149]? = some (.cells #[(.slice A0_0 l0_0.length c0_0),(.slice A0_1 l0_1.length c0_1),(.slice A0_2 l0_2.length c0_2),(.slice A0_3 l0_3.length c0_3)] 35 (0,0))) ∧ Aside0 (Below w.heap.size w w'))
  case atStart => exact ⟨(0),(0),(by first | rfl | (simp;done) | (simp [*];done)),(by first | rfl | (simp;done) | (simp [*];done)),H',⟨Nat.le_refl _⟩,⟨by (with_reducible repeat (first | refine blk_drewN ?_ _ | refine blk_drew ?_ | refine blk_alloc ?_ _));exact BK149.out⟩,⟨by repeat (first | (with_reducible first | exact HB.out | apply below_alloc | apply pw_below_drewN | apply below_drew1 | refine below_set ?_ GE149.out) | exact HB.out)⟩⟩
  case round =>
   clear H';try clear c2
   try clear p2
   obtain ⟨x3_1,x4_1,rfl,rfl,HA,HK1,BK149,HB⟩ := hrel
   cases gk with
   | zero => exact absurd HA.out (by simp [quoinref12_Great.l0])
   | succ k1 =>
    have H := HA.out;clear HA;simp only [quoinref12_Great.l0] at H
    by_cases c4 : x4_1 < (l0_0.length : Int)
    ·rw [if_pos c4] at H
     have c4b0 : decide (x4_1 < (l0_0.length : Int)) = true := decide_eq_true c4;clear c4
     (first | rw [c4b0] | (simp only [i64_w,i32_w];rw [c4b0]) | skip)
     by_cases c5 : x4_1 < 40
     ·rw [if_pos c5] at H
      have c5b0 : decide (x4_1 < 40) = true := decide_eq_true c5;clear c5
      by_cases c6 : 0 ≤ x4_1
      ·rw [if_pos c6] at H
       have c6b0 : decide (0 ≤ x4_1) = true := decide_eq_true c6;clear c6;obtain ⟨ji7,hji7⟩ : ∃ j_ : Int,(mn (((rd_T72 l0_0 x4_1).f2).length : Int) 100000) = j_ := ⟨_,rfl⟩;replace H : (quoinref12_Great.l0 k1 (wrap64 ((wrap64 (x3_1 + (ji7))) + (mn (((rd_T72 l0_0 x4_1).f0).size : Int) 100000))) (wrap64 (x4_1 + 1)) l0_0 l0_1 l0_2 l0_3) = some r := by first | (rw [hji7] at H;exact H) | (simp only [hji7] at H ⊢;exact H)
       have hji7_ : (if 100000 < (((rd_T72 l0_0 x4_1).f2).length : Int) then 100000 else (((rd_T72 l0_0 x4_1).f2).length : Int)) = ji7 := hji7;obtain ⟨ji8,hji8⟩ : ∃ j_ : Int,(mn (((rd_T72 l0_0 x4_1).f0).size : Int) 100000) = j_ := ⟨_,rfl⟩;replace H : (quoinref12_Great.l0 k1 (wrap64 ((wrap64 (x3_1 + (ji7))) + (ji8))) (wrap64 (x4_1 + 1)) l0_0 l0_1 l0_2 l0_3) = some r := by first | (rw [hji8] at H;exact H) | (simp only [hji8] at H ⊢;exact H)
       have hji8_ : (if 100000 < (((rd_T72 l0_0 x4_1).f0).size : Int) then 100000 else (((rd_T72 l0_0 x4_1).f0).size : Int)) = ji8 := hji8;have H' := am0 H;clear H;have hcz9_0 : wr.cell? ⟨gb149,0,none⟩ = some (.slice A0_0 l0_0.length c0_0) := (blk_cell BK149.out 0).trans rfl;have hcz9_1 : wr.cell? ⟨gb149,1,none⟩ = some (.slice A0_1 l0_1.length c0_1) := (blk_cell BK149.out 1).trans rfl;have hcz9_2 : wr.cell? ⟨gb149,2,none⟩ = some (.slice A0_2 l0_2.length c0_2) := (blk_cell BK149.out 2).trans rfl;have hcz9_3 : wr.cell? ⟨gb149,3,none⟩ = some (.slice A0_3 l0_3.length c0_3) := (blk_cell BK149.out 3).trans rfl;have hfz9_0 := blk_frozen BK149.out 0;have hfz9_1 := blk_frozen BK149.out 1;have hfz9_2 := blk_frozen BK149.out 2;have hfz9_3 := blk_frozen BK149.out 3;have p150 : 0 ≤ (x4_1 : Int) := of_decide_eq_true (by first | (with_reducible assumption) | assumption);have q150 : x4_1 < (l0_0.length : Int) := of_decide_eq_true (by first | (with_reducible assumption) | assumption);obtain ⟨ad150,A150_2,c150_2,e150,hx150_0,hx150_1,hx150_2,hx150_3,hl150_2,hi150_2⟩ := at_T72 HR0_0.out x4_1 p150 q150;cases e150;replace hx150_0 := (HB.out.cell (World.block_lt_of_cell? w _ hx150_0)).trans hx150_0;replace hx150_1 := (HB.out.cell (World.block_lt_of_cell? w _ hx150_1)).trans hx150_1;replace hx150_2 := (HB.out.cell (World.block_lt_of_cell? w _ hx150_2)).trans hx150_2;replace hx150_3 := (HB.out.cell (World.block_lt_of_cell? w _ hx150_3)).trans hx150_3;have HR150_2 := am0 hi150_2;have HC150_2 := am0 hl150_2;clear hi150_2 hl150_2;replace p150 := eq_true p150;replace q150 := eq_true q150;have p151 : 0 ≤ (x4_1 : Int) := of_decide_eq_true (by first | (with_reducible assumption) | assumption);have q151 : x4_1 < (l0_0.length : Int) := of_decide_eq_true (by first | (with_reducible assumption) | assumption);obtain ⟨ad151,A151_2,c151_2,e151,hx151_0,hx151_1,hx151_2,hx151_3,hl151_2,hi151_2⟩ := at_T72 HR0_0.out x4_1 p151 q151;obtain rfl : ad150 = ad151 := (by injection e151);replace hx151_0 := (HB.out.cell (World.block_lt_of_cell? w _ hx151_0)).trans hx151_0;replace hx151_1 := (HB.out.cell (World.block_lt_of_cell? w _ hx151_1)).trans hx151_1;replace hx151_2 := (HB.out.cell (World.block_lt_of_cell? w _ hx151_2)).trans hx151_2;replace hx151_3 := (HB.out.cell (World.block_lt_of_cell? w _ hx151_3)).trans hx151_3;have HR151_2 := am0 hi151_2;have HC151_2 := am0 hl151_2;clear hi151_2 hl151_2;replace p151 := eq_true p151;replace q151 := eq_true q151;have ea_ := Option.some.inj (hx150_2.symm.trans hx151_2)
       injection ea_ with ea_ en_ ec_
       subst ea_;subst ec_;clear en_;go_wp2
       repeat (go_quiet (fail);try go_wp2)
       go_roundg k1
       case measure => have := HK1.out;omega
       case rel => exact ⟨(wrap64 ((wrap64 (x3_1 + (ji7))) + (ji8))),(wrap64 (x4_1 + 1)),(by first | rfl | (simp;done) | (simp only [← hji7, ← hji8] <;> (first | rfl | simp)) | (simp [*];done)),(by first | rfl | (simp;done) | (simp [*];done)),H',⟨by have := HK1.out;omega⟩,⟨by (with_reducible repeat (first | refine blk_drewN ?_ _ | refine blk_drew ?_ | refine blk_alloc ?_ _));exact BK149.out⟩,⟨by repeat (first | (with_reducible first | exact HB.out | apply below_alloc | apply pw_below_drewN | apply below_drew1 | refine below_set ?_ GE149.out) | exact HB.out)⟩⟩
      rw [if_neg c6] at H;exact absurd H (by simp)
     rw [if_neg c5] at H;have c5b0 : decide (x4_1 < 40) = false := decide_eq_false c5;clear c5;have H' := am0 H;clear H;have hcz10_0 : wr.cell? ⟨gb149,0,none⟩ = some (.slice A0_0 l0_0.length c0_0) := (blk_cell BK149.out 0).trans rfl;have hcz10_1 : wr.cell? ⟨gb149,1,none⟩ = some (.slice A0_1 l0_1.length c0_1) := (blk_cell BK149.out 1).trans rfl;have hcz10_2 : wr.cell? ⟨gb149,2,none⟩ = some (.slice A0_2 l0_2.length c0_2) := (blk_cell BK149.out 2).trans rfl;have hcz10_3 : wr.cell? ⟨gb149,3,none⟩ = some (.slice A0_3 l0_3.length c0_3) := (blk_cell BK149.out 3).trans rfl;have hfz10_0 := blk_frozen BK149.out 0;have hfz10_1 := blk_frozen BK149.out 1;have hfz10_2 := blk_frozen BK149.out 2;have hfz10_3 := blk_frozen BK149.out 3;go_wp2
     repeat (go_quiet (fail);try go_wp2)
     go_meet
     case rel => exact ⟨_,(x3_1),(by first | rfl | (simp;done) | (simp [*];done)),H',⟨by have := HK1.out;first | omega | exact Nat.le_refl _⟩,⟨by (with_reducible repeat (first | refine blk_drewN ?_ _ | refine blk_drew ?_ | refine blk_alloc ?_ _));exact BK149.out⟩,⟨by repeat (first | (with_reducible first | exact HB.out | apply below_alloc | apply pw_below_drewN | apply below_drew1 | refine below_set ?_ GE149.out) | exact HB.out)⟩⟩
    rw [if_neg c4] at H;have c4b0 : decide (x4_1 < (l0_0.length : Int)) = false := decide_eq_false c4;clear c4
    (first | rw [c4b0] | (simp only [i64_w,i32_w];rw [c4b0]) | skip)
    have H' := am0 H;clear H;have hcz11_0 : wr.cell? ⟨gb149,0,none⟩ = some (.slice A0_0 l0_0.length c0_0) := (blk_cell BK149.out 0).trans rfl;have hcz11_1 : wr.cell? ⟨gb149,1,none⟩ = some (.slice A0_1 l0_1.length c0_1) := (blk_cell BK149.out 1).trans rfl;have hcz11_2 : wr.cell? ⟨gb149,2,none⟩ = some (.slice A0_2 l0_2.length c0_2) := (blk_cell BK149.out 2).trans rfl;have hcz11_3 : wr.cell? ⟨gb149,3,none⟩ = some (.slice A0_3 l0_3.length c0_3) := (blk_cell BK149.out 3).trans rfl;have hfz11_0 := blk_frozen BK149.out 0;have hfz11_1 := blk_frozen BK149.out 1;have hfz11_2 := blk_frozen BK149.out 2;have hfz11_3 := blk_frozen BK149.out 3;go_wp2
    repeat (go_quiet (fail);try go_wp2)
    go_meet
    case rel => exact ⟨_,(x3_1),(by first | rfl | (simp;done) | (simp [*];done)),H',⟨by have := HK1.out;first | omega | exact Nat.le_refl _⟩,⟨by (with_reducible repeat (first | refine blk_drewN ?_ _ | refine blk_drew ?_ | refine blk_alloc ?_ _));exact BK149.out⟩,⟨by repeat (first | (with_reducible first | exact HB.out | apply below_alloc | apply pw_below_drewN | apply below_drew1 | refine below_set ?_ GE149.out) | exact HB.out)⟩⟩
 case rest =>
  clear HC2;try clear c1
  try clear p1
  try clear q1
  try clear hx1
  try clear c2
  try clear p2
  try clear c4
  try clear c4b0
  try clear c5
  try clear c5b0
  try clear c6
  try clear c6b0
  try clear p6
  try clear hcz10_0
  try clear hcz10_1
  try clear hcz10_2
  try clear hcz10_3
  try clear hcz11_0
  try clear hcz11_1
  try clear hcz11_2
  try clear hcz11_3
  try clear hcz9_0
  try clear hcz9_1
  try clear hcz9_2
  try clear hcz9_3
  try clear hfz10_0
  try clear hfz10_1
  try clear hfz10_2
  try clear hfz10_3
  try clear hfz11_0
  try clear hfz11_1
  try clear hfz11_2
  try clear hfz11_3
  try clear hfz9_0
  try clear hfz9_1
  try clear hfz9_2
  try clear hfz9_3
  try clear hx150_0
  try clear hx150_1
  try clear hx150_2
  try clear hx150_3
  try clear hx151_0
  try clear hx151_1
  try clear hx151_2
  try clear hx151_3
  try clear p150
  try clear p151
  try clear p2
  try clear q150
  try clear q151
  obtain ⟨kq,x3_1,rfl,HA,HJ1,BK149,HB⟩ := hcut
  cases kq with
  | zero => exact absurd HA.out (by simp [quoinref12_Great.j1])
  | succ kj1 =>
   have H := HA.out;clear HA;simp only [quoinref12_Great.j1] at H;have HC12 := am0 H;clear H;go_upto_block 2 with (fail)
   repeat (go_quiet (fail);go_upto_block 2 with (fail))
   go_cut [3] (fun v3 wc => ∃ (kq : Nat) (x3_11 : Int),v3 = .int .i64 x3_11 ∧ Aside0 (quoinref12_Great.j3 kq x3_11 l0_0 l0_1 l0_2 l0_3 = some r) ∧ Aside0 (kq ≤ kj1) ∧ Aside0 (wc.heap[gb149]? = some (.cells #[(.slice A0_0 l0_0.length c0_0),(.slice A0_1 l0_1.length c0_1),(.slice A0_2 l0_2.length c0_2),(.slice A0_3 l0_3.length c0_3)] 35 (0,0))) ∧ Aside0 (Below w.heap.size w wc))
   case first =>
    have H := HC12.out;clear HC12;have H' := am0 H;clear H;go_wp2
    repeat (go_quiet (fail);try go_wp2)
    go_loopg [3,5] kj1 (fun kq v3 v5 w' => ∃ (x3_2 : Int) (x5_2 : Int),v3 = .int .i64 x3_2 ∧ v5 = .int .i64 x5_2 ∧ Aside0 (quoinref12_Great.l1 kq x3_2 x5_2 l0_0 l0_1 l0_2 l0_3 = some r) ∧ Aside0 (kq ≤ kj1) ∧ Aside0 (w'.heap[gb149]? = some (.cells #[(.slice A0_0 l0_0.length c0_0),(.slice A0_1 l0_1.length c0_1),(.slice A0_2 l0_2.length c0_2),(.slice A0_3 l0_3.length c0_3)] 35 (0,0))) ∧ Aside0 (Below w.heap.size w w'))
    case atStart => exact ⟨(x3_1),(0),(by first | rfl | (simp;done) | (simp [*];done)),(by first | rfl | (simp;done) | (simp [*];done)),H',⟨Nat.le_refl _⟩,⟨by (with_reducible repeat (first | refine blk_drewN ?_ _ | refine blk_drew ?_ | refine blk_alloc ?_ _));exact BK149.out⟩,⟨by repeat (first | (with_reducible first | exact HB.out | apply below_alloc | apply pw_below_drewN | apply below_drew1 | refine below_set ?_ GE149.out) | exact HB.out)⟩⟩
    case round =>
     clear H';try clear c1
     try clear p1
     try clear q1
     try clear hx1
     try clear c2
     try clear p2
     try clear c4
     try clear c4b0
     try clear c5
     try clear c5b0
     try clear c6
     try clear c6b0
     try clear p6
     try clear hcz10_0
     try clear hcz10_1
     try clear hcz10_2
     try clear hcz10_3
     try clear hcz11_0
     try clear hcz11_1
     try clear hcz11_2
     try clear hcz11_3
     try clear hcz9_0
     try clear hcz9_1
     try clear hcz9_2
     try clear hcz9_3
     try clear hfz10_0
     try clear hfz10_1
     try clear hfz10_2
     try clear hfz10_3
     try clear hfz11_0
     try clear hfz11_1
     try clear hfz11_2
     try clear hfz11_3
     try clear hfz9_0
     try clear hfz9_1
     try clear hfz9_2
     try clear hfz9_3
     try clear hx150_0
     try clear hx150_1
     try clear hx150_2
     try clear hx150_3
     try clear hx151_0
     try clear hx151_1
     try clear hx151_2
     try clear hx151_3
     try clear p1
     try clear p150
     try clear p151
     try clear p2
     try clear p6
     try clear q1
     try clear q150
     try clear q151
     obtain ⟨x3_2,x5_2,rfl,rfl,HA,HK2,BK149,HB⟩ := hrel
     cases gk with
     | zero => exact absurd HA.out (by simp [quoinref12_Great.l1])
     | succ k2 =>
      have H := HA.out;clear HA;simp only [quoinref12_Great.l1] at H
      by_cases c13 : x5_2 < (l0_1.length : Int)
      ·rw [if_pos c13] at H
       have c13b0 : decide (x5_2 < (l0_1.length : Int)) = true := decide_eq_true c13;clear c13
       (first | rw [c13b0] | (simp only [i64_w,i32_w];rw [c13b0]) | skip)
       by_cases c14 : x5_2 < 200
       ·rw [if_pos c14] at H
        have c14b0 : decide (x5_2 < 200) = true := decide_eq_true c14;clear c14
        by_cases c15 : 0 ≤ x5_2
        ·rw [if_pos c15] at H
         have c15b0 : decide (0 ≤ x5_2) = true := decide_eq_true c15;clear c15;obtain ⟨ji16,hji16⟩ : ∃ j_ : Int,(mn (((rd_T40 l0_1 x5_2).f0).size : Int) 100000) = j_ := ⟨_,rfl⟩;replace H : (quoinref12_Great.l1 k2 (wrap64 (x3_2 + (ji16))) (wrap64 (x5_2 + 1)) l0_0 l0_1 l0_2 l0_3) = some r := by first | (rw [hji16] at H;exact H) | (simp only [hji16] at H ⊢;exact H)
         have hji16_ : (if 100000 < (((rd_T40 l0_1 x5_2).f0).size : Int) then 100000 else (((rd_T40 l0_1 x5_2).f0).size : Int)) = ji16 := hji16;have H' := am0 H;clear H;have hcz17_0 : wr.cell? ⟨gb149,0,none⟩ = some (.slice A0_0 l0_0.length c0_0) := (blk_cell BK149.out 0).trans rfl;have hcz17_1 : wr.cell? ⟨gb149,1,none⟩ = some (.slice A0_1 l0_1.length c0_1) := (blk_cell BK149.out 1).trans rfl;have hcz17_2 : wr.cell? ⟨gb149,2,none⟩ = some (.slice A0_2 l0_2.length c0_2) := (blk_cell BK149.out 2).trans rfl;have hcz17_3 : wr.cell? ⟨gb149,3,none⟩ = some (.slice A0_3 l0_3.length c0_3) := (blk_cell BK149.out 3).trans rfl;have hfz17_0 := blk_frozen BK149.out 0;have hfz17_1 := blk_frozen BK149.out 1;have hfz17_2 := blk_frozen BK149.out 2;have hfz17_3 := blk_frozen BK149.out 3;have p152 : 0 ≤ (x5_2 : Int) := of_decide_eq_true (by first | (with_reducible assumption) | assumption);have q152 : x5_2 < (l0_1.length : Int) := of_decide_eq_true (by first | (with_reducible assumption) | assumption);obtain ⟨ad152,e152,hx152_0,hx152_1,hx152_2,hx152_3,hx152_4,hx152_5⟩ := at_T40 HR0_1.out x5_2 p152 q152;cases e152;replace hx152_0 := (HB.out.cell (World.block_lt_of_cell? w _ hx152_0)).trans hx152_0;replace hx152_1 := (HB.out.cell (World.block_lt_of_cell? w _ hx152_1)).trans hx152_1;replace hx152_2 := (HB.out.cell (World.block_lt_of_cell? w _ hx152_2)).trans hx152_2;replace hx152_3 := (HB.out.cell (World.block_lt_of_cell? w _ hx152_3)).trans hx152_3;replace hx152_4 := (HB.out.cell (World.block_lt_of_cell? w _ hx152_4)).trans hx152_4;replace hx152_5 := (HB.out.cell (World.block_lt_of_cell? w _ hx152_5)).trans hx152_5;replace p152 := eq_true p152;replace q152 := eq_true q152;go_wp2
         repeat (go_quiet (fail);try go_wp2)
         go_roundg k2
         case measure => have := HJ1.out;have := HK2.out;omega
         case rel => exact ⟨(wrap64 (x3_2 + (ji16))),(wrap64 (x5_2 + 1)),(by first | rfl | (simp;done) | (simp only [← hji16] <;> (first | rfl | simp)) | (simp [*];done)),(by first | rfl | (simp;done) | (simp [*];done)),H',⟨by have := HJ1.out;have := HK2.out;omega⟩,⟨by (with_reducible repeat (first | refine blk_drewN ?_ _ | refine blk_drew ?_ | refine blk_alloc ?_ _));exact BK149.out⟩,⟨by repeat (first | (with_reducible first | exact HB.out | apply below_alloc | apply pw_below_drewN | apply below_drew1 | refine below_set ?_ GE149.out) | exact HB.out)⟩⟩
        rw [if_neg c15] at H;exact absurd H (by simp)
       rw [if_neg c14] at H;have c14b0 : decide (x5_2 < 200) = false := decide_eq_false c14;clear c14;have H' := am0 H;clear H;have hcz18_0 : wr.cell? ⟨gb149,0,none⟩ = some (.slice A0_0 l0_0.length c0_0) := (blk_cell BK149.out 0).trans rfl;have hcz18_1 : wr.cell? ⟨gb149,1,none⟩ = some (.slice A0_1 l0_1.length c0_1) := (blk_cell BK149.out 1).trans rfl;have hcz18_2 : wr.cell? ⟨gb149,2,none⟩ = some (.slice A0_2 l0_2.length c0_2) := (blk_cell BK149.out 2).trans rfl;have hcz18_3 : wr.cell? ⟨gb149,3,none⟩ = some (.slice A0_3 l0_3.length c0_3) := (blk_cell BK149.out 3).trans rfl;have hfz18_0 := blk_frozen BK149.out 0;have hfz18_1 := blk_frozen BK149.out 1;have hfz18_2 := blk_frozen BK149.out 2;have hfz18_3 := blk_frozen BK149.out 3;go_wp2
       repeat (go_quiet (fail);try go_wp2)
       go_meet
       case rel => exact ⟨_,(x3_2),(by first | rfl | (simp;done) | (simp [*];done)),H',⟨by have := HJ1.out;have := HK2.out;first | omega | exact Nat.le_refl _⟩,⟨by (with_reducible repeat (first | refine blk_drewN ?_ _ | refine blk_drew ?_ | refine blk_alloc ?_ _));exact BK149.out⟩,⟨by repeat (first | (with_reducible first | exact HB.out | apply below_alloc | apply pw_below_drewN | apply below_drew1 | refine below_set ?_ GE149.out) | exact HB.out)⟩⟩
      rw [if_neg c13] at H;have c13b0 : decide (x5_2 < (l0_1.length : Int)) = false := decide_eq_false c13;clear c13
      (first | rw [c13b0] | (simp only [i64_w,i32_w];rw [c13b0]) | skip)
      have H' := am0 H;clear H;have hcz19_0 : wr.cell? ⟨gb149,0,none⟩ = some (.slice A0_0 l0_0.length c0_0) := (blk_cell BK149.out 0).trans rfl;have hcz19_1 : wr.cell? ⟨gb149,1,none⟩ = some (.slice A0_1 l0_1.length c0_1) := (blk_cell BK149.out 1).trans rfl;have hcz19_2 : wr.cell? ⟨gb149,2,none⟩ = some (.slice A0_2 l0_2.length c0_2) := (blk_cell BK149.out 2).trans rfl;have hcz19_3 : wr.cell? ⟨gb149,3,none⟩ = some (.slice A0_3 l0_3.length c0_3) := (blk_cell BK149.out 3).trans rfl;have hfz19_0 := blk_frozen BK149.out 0;have hfz19_1 := blk_frozen BK149.out 1;have hfz19_2 := blk_frozen BK149.out 2;have hfz19_3 := blk_frozen BK149.out 3;go_wp2
      repeat (go_quiet (fail);try go_wp2)
      go_meet
      case rel => exact ⟨_,(x3_2),(by first | rfl | (simp;done) | (simp [*];done)),H',⟨by have := HJ1.out;have := HK2.out;first | omega | exact Nat.le_refl _⟩,⟨by (with_reducible repeat (first | refine blk_drewN ?_ _ | refine blk_drew ?_ | refine blk_alloc ?_ _));exact BK149.out⟩,⟨by repeat (first | (with_reducible first | exact HB.out | apply below_alloc | apply pw_below_drewN | apply below_drew1 | refine below_set ?_ GE149.out) | exact HB.out)⟩⟩
   case rest =>
    clear HC12;try clear c1
    try clear p1
    try clear q1
    try clear hx1
    try clear c2
    try clear p2
    try clear c4
    try clear c4b0
    try clear c5
    try clear c5b0
    try clear c6
    try clear c6b0
    try clear p6
    try clear c13
    try clear c13b0
    try clear c14
    try clear c14b0
    try clear c15
    try clear c15b0
    try clear p15
    try clear q15
    try clear hx15
    try clear hcz10_0
    try clear hcz10_1
    try clear hcz10_2
    try clear hcz10_3
    try clear hcz11_0
    try clear hcz11_1
    try clear hcz11_2
    try clear hcz11_3
    try clear hcz17_0
    try clear hcz17_1
    try clear hcz17_2
    try clear hcz17_3
    try clear hcz18_0
    try clear hcz18_1
    try clear hcz18_2
    try clear hcz18_3
    try clear hcz19_0
    try clear hcz19_1
    try clear hcz19_2
    try clear hcz19_3
    try clear hcz9_0
    try clear hcz9_1
    try clear hcz9_2
    try clear hcz9_3
    try clear hfz10_0
    try clear hfz10_1
    try clear hfz10_2
    try clear hfz10_3
    try clear hfz11_0
    try clear hfz11_1
    try clear hfz11_2
    try clear hfz11_3
    try clear hfz17_0
    try clear hfz17_1
    try clear hfz17_2
    try clear hfz17_3
    try clear hfz18_0
    try clear hfz18_1
    try clear hfz18_2
    try clear hfz18_3
    try clear hfz19_0
    try clear hfz19_1
    try clear hfz19_2
    try clear hfz19_3
    try clear hfz9_0
    try clear hfz9_1
    try clear hfz9_2
    try clear hfz9_3
    try clear hx150_0
    try clear hx150_1
    try clear hx150_2
    try clear hx150_3
    try clear hx151_0
    try clear hx151_1
    try clear hx151_2
    try clear hx151_3
    try clear hx152_0
    try clear hx152_1
    try clear hx152_2
    try clear hx152_3
    try clear hx152_4
    try clear hx152_5
    try clear p1
    try clear p150
    try clear p151
    try clear p152
    try clear p2
    try clear p6
    try clear q1
    try clear q150
    try clear q151
    try clear q152
    obtain ⟨kq,x3_11,rfl,HA,HJ11,BK149,HB⟩ := hcut
    cases kq with
    | zero => exact absurd HA.out (by simp [quoinref12_Great.j3])
    | succ kj11 =>
     have H := HA.out;clear HA;simp only [quoinref12_Great.j3] at H;have H' := am0 H;clear H;go_wp2
     repeat (go_quiet (fail);try go_wp2)
     go_loopg [3,6] kj11 (fun kq v3 v6 w' => ∃ (x3_3 : Int) (x6_3 : Int),v3 = .int .i64 x3_3 ∧ v6 = .int .i64 x6_3 ∧ Aside0 (quoinref12_Great.l2 kq x3_3 x6_3 l0_0 l0_1 l0_2 l0_3 = some r) ∧ Aside0 (kq ≤ kj11) ∧ Aside0 (w'.heap[gb149]? = some (.cells #[(.slice A0_0 l0_0.length c0_0),(.slice A0_1 l0_1.length c0_1),(.slice A0_2 l0_2.length c0_2),(.slice A0_3 l0_3.length c0_3)] 35 (0,0))) ∧ Aside0 (Below w.heap.size w w'))
     case atStart => exact ⟨(x3_11),(0),(by first | rfl | (simp;done) | (simp [*];done)),(by first | rfl | (simp;done) | (simp [*];done)),H',⟨Nat.le_refl _⟩,⟨by (with_reducible repeat (first | refine blk_drewN ?_ _ | refine blk_drew ?_ | refine blk_alloc ?_ _));exact BK149.out⟩,⟨by repeat (first | (with_reducible first | exact HB.out | apply below_alloc | apply pw_below_drewN | apply below_drew1 | refine below_set ?_ GE149.out) | exact HB.out)⟩⟩
     case round =>
      clear H';try clear c1
      try clear p1
      try clear q1
      try clear hx1
      try clear c2
      try clear p2
      try clear c4
      try clear c4b0
      try clear c5
      try clear c5b0
      try clear c6
      try clear c6b0
      try clear p6
      try clear c13
      try clear c13b0
      try clear c14
      try clear c14b0
      try clear c15
      try clear c15b0
      try clear p15
      try clear q15
      try clear hx15
      try clear hcz10_0
      try clear hcz10_1
      try clear hcz10_2
      try clear hcz10_3
      try clear hcz11_0
      try clear hcz11_1
      try clear hcz11_2
      try clear hcz11_3
      try clear hcz17_0
      try clear hcz17_1
      try clear hcz17_2
      try clear hcz17_3
      try clear hcz18_0
      try clear hcz18_1
      try clear hcz18_2
      try clear hcz18_3
      try clear hcz19_0
      try clear hcz19_1
      try clear hcz19_2
      try clear hcz19_3
      try clear hcz9_0
      try clear hcz9_1
      try clear hcz9_2
      try clear hcz9_3
      try clear hfz10_0
      try clear hfz10_1
      try clear hfz10_2
      try clear hfz10_3
      try clear hfz11_0
      try clear hfz11_1
      try clear hfz11_2
      try clear hfz11_3
      try clear hfz17_0
      try clear hfz17_1
      try clear hfz17_2
      try clear hfz17_3
      try clear hfz18_0
      try clear hfz18_1
      try clear hfz18_2
      try clear hfz18_3
      try clear hfz19_0
      try clear hfz19_1
      try clear hfz19_2
      try clear hfz19_3
      try clear hfz9_0
      try clear hfz9_1
      try clear hfz9_2
      try clear hfz9_3
      try clear hx150_0
      try clear hx150_1
      try clear hx150_2
      try clear hx150_3
      try clear hx151_0
      try clear hx151_1
      try clear hx151_2
      try clear hx151_3
      try clear hx152_0
      try clear hx152_1
      try clear hx152_2
      try clear hx152_3
      try clear hx152_4
      try clear hx152_5
      try clear p1
      try clear p15
      try clear p150
      try clear p151
      try clear p152
      try clear p2
      try clear p6
      try clear q1
      try clear q15
      try clear q150
      try clear q151
      try clear q152
      obtain ⟨x3_3,x6_3,rfl,rfl,HA,HK3,BK149,HB⟩ := hrel
      cases gk with
      | zero => exact absurd HA.out (by simp [quoinref12_Great.l2])
      | succ k3 =>
       have H := HA.out;clear HA;simp only [quoinref12_Great.l2] at H
       by_cases c20 : x6_3 < (l0_3.length : Int)
       ·rw [if_pos c20] at H
        have c20b0 : decide (x6_3 < (l0_3.length : Int)) = true := decide_eq_true c20;clear c20
        by_cases c21 : x6_3 < 40
        ·rw [if_pos c21] at H
         have c21b0 : decide (x6_3 < 40) = true := decide_eq_true c21;clear c21
         by_cases c22 : 0 ≤ x6_3
         ·rw [if_pos c22] at H
          have c22b0 : decide (0 ≤ x6_3) = true := decide_eq_true c22;clear c22;obtain ⟨ji23,hji23⟩ : ∃ j_ : Int,(mn (((rd_T68 l0_3 x6_3).f0).size : Int) 100000) = j_ := ⟨_,rfl⟩;replace H : (quoinref12_Great.l2 k3 (wrap64 ((wrap64 (x3_3 + (ji23))) + (mn (((rd_T68 l0_3 x6_3).f1).length : Int) 100000))) (wrap64 (x6_3 + 1)) l0_0 l0_1 l0_2 l0_3) = some r := by first | (rw [hji23] at H;exact H) | (simp only [hji23] at H ⊢;exact H)
          have hji23_ : (if 100000 < (((rd_T68 l0_3 x6_3).f0).size : Int) then 100000 else (((rd_T68 l0_3 x6_3).f0).size : Int)) = ji23 := hji23;obtain ⟨ji24,hji24⟩ : ∃ j_ : Int,(mn (((rd_T68 l0_3 x6_3).f1).length : Int) 100000) = j_ := ⟨_,rfl⟩;replace H : (quoinref12_Great.l2 k3 (wrap64 ((wrap64 (x3_3 + (ji23))) + (ji24))) (wrap64 (x6_3 + 1)) l0_0 l0_1 l0_2 l0_3) = some r := by first | (rw [hji24] at H;exact H) | (simp only [hji24] at H ⊢;exact H)
          have hji24_ : (if 100000 < (((rd_T68 l0_3 x6_3).f1).length : Int) then 100000 else (((rd_T68 l0_3 x6_3).f1).length : Int)) = ji24 := hji24;have H' := am0 H;clear H;have hcz25_0 : wr.cell? ⟨gb149,0,none⟩ = some (.slice A0_0 l0_0.length c0_0) := (blk_cell BK149.out 0).trans rfl;have hcz25_1 : wr.cell? ⟨gb149,1,none⟩ = some (.slice A0_1 l0_1.length c0_1) := (blk_cell BK149.out 1).trans rfl;have hcz25_2 : wr.cell? ⟨gb149,2,none⟩ = some (.slice A0_2 l0_2.length c0_2) := (blk_cell BK149.out 2).trans rfl;have hcz25_3 : wr.cell? ⟨gb149,3,none⟩ = some (.slice A0_3 l0_3.length c0_3) := (blk_cell BK149.out 3).trans rfl;have hfz25_0 := blk_frozen BK149.out 0;have hfz25_1 := blk_frozen BK149.out 1;have hfz25_2 := blk_frozen BK149.out 2;have hfz25_3 := blk_frozen BK149.out 3;have p153 : 0 ≤ (x6_3 : Int) := of_decide_eq_true (by first | (with_reducible assumption) | assumption);have q153 : x6_3 < (l0_3.length : Int) := of_decide_eq_true (by first | (with_reducible assumption) | assumption);obtain ⟨ad153,A153_1,c153_1,e153,hx153_0,hx153_1,hl153_1,hi153_1⟩ := at_T68 HR0_3.out x6_3 p153 q153;cases e153;replace hx153_0 := (HB.out.cell (World.block_lt_of_cell? w _ hx153_0)).trans hx153_0;replace hx153_1 := (HB.out.cell (World.block_lt_of_cell? w _ hx153_1)).trans hx153_1;have HR153_1 := am0 hi153_1;have HC153_1 := am0 hl153_1;clear hi153_1 hl153_1;replace p153 := eq_true p153;replace q153 := eq_true q153;have p154 : 0 ≤ (x6_3 : Int) := of_decide_eq_true (by first | (with_reducible assumption) | assumption);have q154 : x6_3 < (l0_3.length : Int) := of_decide_eq_true (by first | (with_reducible assumption) | assumption);obtain ⟨ad154,A154_1,c154_1,e154,hx154_0,hx154_1,hl154_1,hi154_1⟩ := at_T68 HR0_3.out x6_3 p154 q154;obtain rfl : ad153 = ad154 := (by injection e154);replace hx154_0 := (HB.out.cell (World.block_lt_of_cell? w _ hx154_0)).trans hx154_0;replace hx154_1 := (HB.out.cell (World.block_lt_of_cell? w _ hx154_1)).trans hx154_1;have HR154_1 := am0 hi154_1;have HC154_1 := am0 hl154_1;clear hi154_1 hl154_1;replace p154 := eq_true p154;replace q154 := eq_true q154;have ea_ := Option.some.inj (hx153_1.symm.trans hx154_1)
          injection ea_ with ea_ en_ ec_
          subst ea_;subst ec_;clear en_;go_wp2
          repeat (go_quiet (fail);try go_wp2)
          go_roundg k3
          case measure => have := HJ1.out;have := HJ11.out;have := HK3.out;omega
          case rel => exact ⟨(wrap64 ((wrap64 (x3_3 + (ji23))) + (ji24))),(wrap64 (x6_3 + 1)),(by first | rfl | (simp;done) | (simp only [← hji23, ← hji24] <;> (first | rfl | simp)) | (simp [*];done)),(by first | rfl | (simp;done) | (simp [*];done)),H',⟨by have := HJ1.out;have := HJ11.out;have := HK3.out;omega⟩,⟨by (with_reducible repeat (first | refine blk_drewN ?_ _ | refine blk_drew ?_ | refine blk_alloc ?_ _));exact BK149.out⟩,⟨by repeat (first | (with_reducible first | exact HB.out | apply below_alloc | apply pw_below_drewN | apply below_drew1 | refine below_set ?_ GE149.out) | exact HB.out)⟩⟩
         rw [if_neg c22] at H;exact absurd H (by simp)
        rw [if_neg c21] at H;have c21b0 : decide (x6_3 < 40) = false := decide_eq_false c21;clear c21
        by_cases c26 : x3_3 > 80000
        ·rw [if_pos c26] at H
         have c26b0 : decide (80000 < x3_3) = true := decide_eq_true c26;clear c26;obtain rfl := Option.some.inj H;have hcz27_0 : wr.cell? ⟨gb149,0,none⟩ = some (.slice A0_0 l0_0.length c0_0) := (blk_cell BK149.out 0).trans rfl;have hcz27_1 : wr.cell? ⟨gb149,1,none⟩ = some (.slice A0_1 l0_1.length c0_1) := (blk_cell BK149.out 1).trans rfl;have hcz27_2 : wr.cell? ⟨gb149,2,none⟩ = some (.slice A0_2 l0_2.length c0_2) := (blk_cell BK149.out 2).trans rfl;have hcz27_3 : wr.cell? ⟨gb149,3,none⟩ = some (.slice A0_3 l0_3.length c0_3) := (blk_cell BK149.out 3).trans rfl;have hfz27_0 := blk_frozen BK149.out 0;have hfz27_1 := blk_frozen BK149.out 1;have hfz27_2 := blk_frozen BK149.out 2;have hfz27_3 := blk_frozen BK149.out 3;go_wp2
         repeat (go_quiet (fail);try go_wp2)
         go_ret
         exact ⟨by first | rfl | (simp [errW_none,errW_some] <;> rfl) | (simp [*,errW_none,errW_some] <;> rfl),by repeat (first | (with_reducible first | exact HB.out | apply below_alloc | apply pw_below_drewN | apply below_drew1 | refine below_set ?_ GE149.out) | exact HB.out)⟩
        rw [if_neg c26] at H;have c26b0 : decide (80000 < x3_3) = false := decide_eq_false c26;clear c26
        by_cases c28 : (l0_0.length : Int) > 30
        ·rw [if_pos c28] at H
         have c28b0 : decide (30 < (l0_0.length : Int)) = true := decide_eq_true c28;have c28b1 : decide (30 < l0_0.length) = true := decide_eq_true (by omega);clear c28;obtain rfl := Option.some.inj H;have hcz29_0 : wr.cell? ⟨gb149,0,none⟩ = some (.slice A0_0 l0_0.length c0_0) := (blk_cell BK149.out 0).trans rfl;have hcz29_1 : wr.cell? ⟨gb149,1,none⟩ = some (.slice A0_1 l0_1.length c0_1) := (blk_cell BK149.out 1).trans rfl;have hcz29_2 : wr.cell? ⟨gb149,2,none⟩ = some (.slice A0_2 l0_2.length c0_2) := (blk_cell BK149.out 2).trans rfl;have hcz29_3 : wr.cell? ⟨gb149,3,none⟩ = some (.slice A0_3 l0_3.length c0_3) := (blk_cell BK149.out 3).trans rfl;have hfz29_0 := blk_frozen BK149.out 0;have hfz29_1 := blk_frozen BK149.out 1;have hfz29_2 := blk_frozen BK149.out 2;have hfz29_3 := blk_frozen BK149.out 3;go_wp2
         repeat (go_quiet (fail);try go_wp2)
         go_ret
         exact ⟨by first | rfl | (simp [errW_none,errW_some] <;> rfl) | (simp [*,errW_none,errW_some] <;> rfl),by repeat (first | (with_reducible first | exact HB.out | apply below_alloc | apply pw_below_drewN | apply below_drew1 | refine below_set ?_ GE149.out) | exact HB.out)⟩
        rw [if_neg c28] at H;have c28b0 : decide (30 < (l0_0.length : Int)) = false := decide_eq_false c28;have c28b1 : decide (30 < l0_0.length) = false := decide_eq_false (by omega);clear c28
        by_cases c30 : (l0_1.length : Int) > 100
        ·rw [if_pos c30] at H
         have c30b0 : decide (100 < (l0_1.length : Int)) = true := decide_eq_true c30;have c30b1 : decide (100 < l0_1.length) = true := decide_eq_true (by omega);clear c30;obtain rfl := Option.some.inj H;have hcz31_0 : wr.cell? ⟨gb149,0,none⟩ = some (.slice A0_0 l0_0.length c0_0) := (blk_cell BK149.out 0).trans rfl;have hcz31_1 : wr.cell? ⟨gb149,1,none⟩ = some (.slice A0_1 l0_1.length c0_1) := (blk_cell BK149.out 1).trans rfl;have hcz31_2 : wr.cell? ⟨gb149,2,none⟩ = some (.slice A0_2 l0_2.length c0_2) := (blk_cell BK149.out 2).trans rfl;have hcz31_3 : wr.cell? ⟨gb149,3,none⟩ = some (.slice A0_3 l0_3.length c0_3) := (blk_cell BK149.out 3).trans rfl;have hfz31_0 := blk_frozen BK149.out 0;have hfz31_1 := blk_frozen BK149.out 1;have hfz31_2 := blk_frozen BK149.out 2;have hfz31_3 := blk_frozen BK149.out 3;go_wp2
         repeat (go_quiet (fail);try go_wp2)
         go_ret
         exact ⟨by first | rfl | (simp [errW_none,errW_some] <;> rfl) | (simp [*,errW_none,errW_some] <;> rfl),by repeat (first | (with_reducible first | exact HB.out | apply below_alloc | apply pw_below_drewN | apply below_drew1 | refine below_set ?_ GE149.out) | exact HB.out)⟩
        rw [if_neg c30] at H;have c30b0 : decide (100 < (l0_1.length : Int)) = false := decide_eq_false c30;have c30b1 : decide (100 < l0_1.length) = false := decide_eq_false (by omega);clear c30
        by_cases c32 : (l0_2.length : Int) > 300
        ·rw [if_pos c32] at H
         have c32b0 : decide (300 < (l0_2.length : Int)) = true := decide_eq_true c32;have c32b1 : decide (300 < l0_2.length) = true := decide_eq_true (by omega);clear c32;obtain rfl := Option.some.inj H;have hcz33_0 : wr.cell? ⟨gb149,0,none⟩ = some (.slice A0_0 l0_0.length c0_0) := (blk_cell BK149.out 0).trans rfl;have hcz33_1 : wr.cell? ⟨gb149,1,none⟩ = some (.slice A0_1 l0_1.length c0_1) := (blk_cell BK149.out 1).trans rfl;have hcz33_2 : wr.cell? ⟨gb149,2,none⟩ = some (.slice A0_2 l0_2.length c0_2) := (blk_cell BK149.out 2).trans rfl;have hcz33_3 : wr.cell? ⟨gb149,3,none⟩ = some (.slice A0_3 l0_3.length c0_3) := (blk_cell BK149.out 3).trans rfl;have hfz33_0 := blk_frozen BK149.out 0;have hfz33_1 := blk_frozen BK149.out 1;have hfz33_2 := blk_frozen BK149.out 2;have hfz33_3 := blk_frozen BK149.out 3;go_wp2
         repeat (go_quiet (fail);try go_wp2)
         go_ret
         exact ⟨by first | rfl | (simp [errW_none,errW_some] <;> rfl) | (simp [*,errW_none,errW_some] <;> rfl),by repeat (first | (with_reducible first | exact HB.out | apply below_alloc | apply pw_below_drewN | apply below_drew1 | refine below_set ?_ GE149.out) | exact HB.out)⟩
        rw [if_neg c32] at H;have c32b0 : decide (300 < (l0_2.length : Int)) = false := decide_eq_false c32;have c32b1 : decide (300 < l0_2.length) = false := decide_eq_false (by omega);clear c32;obtain rfl := Option.some.inj H;have hcz34_0 : wr.cell? ⟨gb149,0,none⟩ = some (.slice A0_0 l0_0.length c0_0) := (blk_cell BK149.out 0).trans rfl;have hcz34_1 : wr.cell? ⟨gb149,1,none⟩ = some (.slice A0_1 l0_1.length c0_1) := (blk_cell BK149.out 1).trans rfl;have hcz34_2 : wr.cell? ⟨gb149,2,none⟩ = some (.slice A0_2 l0_2.length c0_2) := (blk_cell BK149.out 2).trans rfl;have hcz34_3 : wr.cell? ⟨gb149,3,none⟩ = some (.slice A0_3 l0_3.length c0_3) := (blk_cell BK149.out 3).trans rfl;have hfz34_0 := blk_frozen BK149.out 0;have hfz34_1 := blk_frozen BK149.out 1;have hfz34_2 := blk_frozen BK149.out 2;have hfz34_3 := blk_frozen BK149.out 3;go_wp2
        repeat (go_quiet (fail);try go_wp2)
        go_ret
        exact ⟨by first | rfl | (simp [errW_none,errW_some] <;> rfl) | (simp [*,errW_none,errW_some] <;> rfl),by repeat (first | (with_reducible first | exact HB.out | apply below_alloc | apply pw_below_drewN | apply below_drew1 | refine below_set ?_ GE149.out) | exact HB.out)⟩
       rw [if_neg c20] at H;have c20b0 : decide (x6_3 < (l0_3.length : Int)) = false := decide_eq_false c20;clear c20
       by_cases c35 : x3_3 > 80000
       ·rw [if_pos c35] at H
        have c35b0 : decide (80000 < x3_3) = true := decide_eq_true c35;clear c35;obtain rfl := Option.some.inj H;have hcz36_0 : wr.cell? ⟨gb149,0,none⟩ = some (.slice A0_0 l0_0.length c0_0) := (blk_cell BK149.out 0).trans rfl;have hcz36_1 : wr.cell? ⟨gb149,1,none⟩ = some (.slice A0_1 l0_1.length c0_1) := (blk_cell BK149.out 1).trans rfl;have hcz36_2 : wr.cell? ⟨gb149,2,none⟩ = some (.slice A0_2 l0_2.length c0_2) := (blk_cell BK149.out 2).trans rfl;have hcz36_3 : wr.cell? ⟨gb149,3,none⟩ = some (.slice A0_3 l0_3.length c0_3) := (blk_cell BK149.out 3).trans rfl;have hfz36_0 := blk_frozen BK149.out 0;have hfz36_1 := blk_frozen BK149.out 1;have hfz36_2 := blk_frozen BK149.out 2;have hfz36_3 := blk_frozen BK149.out 3;go_wp2
        repeat (go_quiet (fail);try go_wp2)
        go_ret
        exact ⟨by first | rfl | (simp [errW_none,errW_some] <;> rfl) | (simp [*,errW_none,errW_some] <;> rfl),by repeat (first | (with_reducible first | exact HB.out | apply below_alloc | apply pw_below_drewN | apply below_drew1 | refine below_set ?_ GE149.out) | exact HB.out)⟩
       rw [if_neg c35] at H;have c35b0 : decide (80000 < x3_3) = false := decide_eq_false c35;clear c35
       by_cases c37 : (l0_0.length : Int) > 30
       ·rw [if_pos c37] at H
        have c37b0 : decide (30 < (l0_0.length : Int)) = true := decide_eq_true c37;have c37b1 : decide (30 < l0_0.length) = true := decide_eq_true (by omega);clear c37;obtain rfl := Option.some.inj H;have hcz38_0 : wr.cell? ⟨gb149,0,none⟩ = some (.slice A0_0 l0_0.length c0_0) := (blk_cell BK149.out 0).trans rfl;have hcz38_1 : wr.cell? ⟨gb149,1,none⟩ = some (.slice A0_1 l0_1.length c0_1) := (blk_cell BK149.out 1).trans rfl;have hcz38_2 : wr.cell? ⟨gb149,2,none⟩ = some (.slice A0_2 l0_2.length c0_2) := (blk_cell BK149.out 2).trans rfl;have hcz38_3 : wr.cell? ⟨gb149,3,none⟩ = some (.slice A0_3 l0_3.length c0_3) := (blk_cell BK149.out 3).trans rfl;have hfz38_0 := blk_frozen BK149.out 0;have hfz38_1 := blk_frozen BK149.out 1;have hfz38_2 := blk_frozen BK149.out 2;have hfz38_3 := blk_frozen BK149.out 3;go_wp2
        repeat (go_quiet (fail);try go_wp2)
        go_ret
        exact ⟨by first | rfl | (simp [errW_none,errW_some] <;> rfl) | (simp [*,errW_none,errW_some] <;> rfl),by repeat (first | (with_reducible first | exact HB.out | apply below_alloc | apply pw_below_drewN | apply below_drew1 | refine below_set ?_ GE149.out) | exact HB.out)⟩
       rw [if_neg c37] at H;have c37b0 : decide (30 < (l0_0.length : Int)) = false := decide_eq_false c37;have c37b1 : decide (30 < l0_0.length) = false := decide_eq_false (by omega);clear c37
       by_cases c39 : (l0_1.length : Int) > 100
       ·rw [if_pos c39] at H
        have c39b0 : decide (100 < (l0_1.length : Int)) = true := decide_eq_true c39;have c39b1 : decide (100 < l0_1.length) = true := decide_eq_true (by omega);clear c39;obtain rfl := Option.some.inj H;have hcz40_0 : wr.cell? ⟨gb149,0,none⟩ = some (.slice A0_0 l0_0.length c0_0) := (blk_cell BK149.out 0).trans rfl;have hcz40_1 : wr.cell? ⟨gb149,1,none⟩ = some (.slice A0_1 l0_1.length c0_1) := (blk_cell BK149.out 1).trans rfl;have hcz40_2 : wr.cell? ⟨gb149,2,none⟩ = some (.slice A0_2 l0_2.length c0_2) := (blk_cell BK149.out 2).trans rfl;have hcz40_3 : wr.cell? ⟨gb149,3,none⟩ = some (.slice A0_3 l0_3.length c0_3) := (blk_cell BK149.out 3).trans rfl;have hfz40_0 := blk_frozen BK149.out 0;have hfz40_1 := blk_frozen BK149.out 1;have hfz40_2 := blk_frozen BK149.out 2;have hfz40_3 := blk_frozen BK149.out 3;go_wp2
        repeat (go_quiet (fail);try go_wp2)
        go_ret
        exact ⟨by first | rfl | (simp [errW_none,errW_some] <;> rfl) | (simp [*,errW_none,errW_some] <;> rfl),by repeat (first | (with_reducible first | exact HB.out | apply below_alloc | apply pw_below_drewN | apply below_drew1 | refine below_set ?_ GE149.out) | exact HB.out)⟩
       rw [if_neg c39] at H;have c39b0 : decide (100 < (l0_1.length : Int)) = false := decide_eq_false c39;have c39b1 : decide (100 < l0_1.length) = false := decide_eq_false (by omega);clear c39
       by_cases c41 : (l0_2.length : Int) > 300
       ·rw [if_pos c41] at H
        have c41b0 : decide (300 < (l0_2.length : Int)) = true := decide_eq_true c41;have c41b1 : decide (300 < l0_2.length) = true := decide_eq_true (by omega);clear c41;obtain rfl := Option.some.inj H;have hcz42_0 : wr.cell? ⟨gb149,0,none⟩ = some (.slice A0_0 l0_0.length c0_0) := (blk_cell BK149.out 0).trans rfl;have hcz42_1 : wr.cell? ⟨gb149,1,none⟩ = some (.slice A0_1 l0_1.length c0_1) := (blk_cell BK149.out 1).trans rfl;have hcz42_2 : wr.cell? ⟨gb149,2,none⟩ = some (.slice A0_2 l0_2.length c0_2) := (blk_cell BK149.out 2).trans rfl;have hcz42_3 : wr.cell? ⟨gb149,3,none⟩ = some (.slice A0_3 l0_3.length c0_3) := (blk_cell BK149.out 3).trans rfl;have hfz42_0 := blk_frozen BK149.out 0;have hfz42_1 := blk_frozen BK149.out 1;have hfz42_2 := blk_frozen BK149.out 2;have hfz42_3 := blk_frozen BK149.out 3;go_wp2
        repeat (go_quiet (fail);try go_wp2)
        go_ret
        exact ⟨by first | rfl | (simp [errW_none,errW_some] <;> rfl) | (simp [*,errW_none,errW_some] <;> rfl),by repeat (first | (with_reducible first | exact HB.out | apply below_alloc | apply pw_below_drewN | apply below_drew1 | refine below_set ?_ GE149.out) | exact HB.out)⟩
       rw [if_neg c41] at H;have c41b0 : decide (300 < (l0_2.length : Int)) = false := decide_eq_false c41;have c41b1 : decide (300 < l0_2.length) = false := decide_eq_false (by omega);clear c41;obtain rfl := Option.some.inj H;have hcz43_0 : wr.cell? ⟨gb149,0,none⟩ = some (.slice A0_0 l0_0.length c0_0) := (blk_cell BK149.out 0).trans rfl;have hcz43_1 : wr.cell? ⟨gb149,1,none⟩ = some (.slice A0_1 l0_1.length c0_1) := (blk_cell BK149.out 1).trans rfl;have hcz43_2 : wr.cell? ⟨gb149,2,none⟩ = some (.slice A0_2 l0_2.length c0_2) := (blk_cell BK149.out 2).trans rfl;have hcz43_3 : wr.cell? ⟨gb149,3,none⟩ = some (.slice A0_3 l0_3.length c0_3) := (blk_cell BK149.out 3).trans rfl;have hfz43_0 := blk_frozen BK149.out 0;have hfz43_1 := blk_frozen BK149.out 1;have hfz43_2 := blk_frozen BK149.out 2;have hfz43_3 := blk_frozen BK149.out 3;go_wp2
       repeat (go_quiet (fail);try go_wp2)
       go_ret
       exact ⟨by first | rfl | (simp [errW_none,errW_some] <;> rfl) | (simp [*,errW_none,errW_some] <;> rfl),by repeat (first | (with_reducible first | exact HB.out | apply below_alloc | apply pw_below_drewN | apply below_drew1 | refine below_set ?_ GE149.out) | exact HB.out)⟩
mutual
def quoinref23_Great.l0 : Nat → List (S38) → Int → Option (Bool)
 | 0,_,_ => none
 | k + 1,x0,x3 => if x3 < (x0.length : Int) then (quoinref23_Great.j1 k x0 x3 (decide (x3 < 20))) else (quoinref23_Great.j1 k x0 x3 false)
def quoinref23_Great.j1 : Nat → List (S38) → Int → Bool → Option (Bool)
 | 0,_,_,_ => none
 | k + 1,x0,x3,x11 => if x11 = true then (if 0 ≤ x3 then (if x3 < (x0.length : Int) then ((quoinref12_Great.f k ((rd_T38 x0 x3).f2.f0) ((rd_T38 x0 x3).f2.f1) ((rd_T38 x0 x3).f2.f2) ((rd_T38 x0 x3).f2.f3)).bind fun t156 => (if t156 = true then (some true) else (if (((rd_T38 x0 x3).f3).length : Int) > 40 then (some true) else (quoinref23_Great.l0 k x0 (wrap64 (x3 + 1)))))) else (none)) else (none)) else (if (x0.length : Int) > 12 then (if (x0.length : Int) ≤ 64 then (some true) else (some (decide ((x0.length : Int) > 80)))) else (some (decide ((x0.length : Int) > 80))))
end
def quoinref23_Great.f (k : Nat) (l0 : List (S38)) : Option (Bool) := quoinref23_Great.l0 k l0 0
theorem quoinref23_Great.mono_l : ∀ k,(∀ y0 y1,LeO (quoinref23_Great.l0 k y0 y1) (quoinref23_Great.l0 (k + 1) y0 y1)) ∧ (∀ y0 y1 y2,LeO (quoinref23_Great.j1 k y0 y1 y2) (quoinref23_Great.j1 (k + 1) y0 y1 y2))
 | 0 => ⟨fun _ _ r h => by simp [quoinref23_Great.l0] at h,fun _ _ _ r h => by simp [quoinref23_Great.j1] at h⟩
 | k + 1 => by
  obtain ⟨ih0,ih1⟩ := quoinref23_Great.mono_l k;refine ⟨?_, ?_⟩
  ·intro y0 y1
   unfold quoinref23_Great.l0;repeat' first
   | (with_reducible exact ih0 _ _)
   | (with_reducible exact ih1 _ _ _)
   | (with_reducible exact quoinref12_Great.mono _ _ _ _ _)
   | (with_reducible exact LeO.refl _)
   | (with_reducible exact LeO.none _)
   | (with_reducible refine LeO.ite ?_ ?_)
   | (with_reducible refine LeO.bind ?_ (fun _ => ?_))
   | exact ih0 _ _
   | exact ih1 _ _ _
   | exact quoinref12_Great.mono _ _ _ _ _
   | exact LeO.none _
   | refine LeO.ite ?_ ?_
   | refine LeO.bind ?_ (fun _ => ?_)
  intro y0 y1 y2;unfold quoinref23_Great.j1;repeat' first
  | (with_reducible exact ih0 _ _)
  | (with_reducible exact ih1 _ _ _)
  | (with_reducible exact quoinref12_Great.mono _ _ _ _ _)
  | (with_reducible exact LeO.refl _)
  | (with_reducible exact LeO.none _)
  | (with_reducible refine LeO.ite ?_ ?_)
  | (with_reducible refine LeO.bind ?_ (fun _ => ?_))
  | exact ih0 _ _
  | exact ih1 _ _ _
  | exact quoinref12_Great.mono _ _ _ _ _
  | exact LeO.none _
  | refine LeO.ite ?_ ?_
  | refine LeO.bind ?_ (fun _ => ?_)
theorem quoinref23_Great.mono : ∀ a0 k,LeO (quoinref23_Great.f k a0) (quoinref23_Great.f (k + 1) a0) := by
 intro a0 k;obtain ⟨ih0,ih1⟩ := quoinref23_Great.mono_l k;unfold quoinref23_Great.f
 repeat' first
   | (with_reducible exact ih0 _ _)
   | (with_reducible exact ih1 _ _ _)
   | (with_reducible exact quoinref12_Great.mono _ _ _ _ _)
   | (with_reducible exact LeO.refl _)
   | (with_reducible exact LeO.none _)
   | (with_reducible refine LeO.ite ?_ ?_)
   | (with_reducible refine LeO.bind ?_ (fun _ => ?_))
   | exact ih0 _ _
   | exact ih1 _ _ _
   | exact quoinref12_Great.mono _ _ _ _ _
   | exact LeO.none _
   | refine LeO.ite ?_ ?_
   | refine LeO.bind ?_ (fun _ => ?_)
set_option maxHeartbeats 8000000 in
set_option maxRecDepth 100000 in
theorem quoinref23_Great.calls (k : Nat) (A0 : Option Addr) (c0 : Nat) (l0 : List (S38)) (r : Bool) (w : World) (hr0 : Kd.C k38 w A0 l0.length l0) (hc0 : l0.length ≤ c0) (h : quoinref23_Great.f k l0 = some r) :
  Calls Tryd.prog 9 #[.slice A0 l0.length c0] w fun e w' => e = .returned (.bool r) ∧ Below w.heap.size w w' := by
 have hu35 := Tryd.underlying35;have HR0 := am0 hr0;have HC0 := am0 hc0;clear hr0 hc0;have HB := am0 (Below.refl w.heap.size w);have H : (quoinref23_Great.l0 k l0 0) = some r := h;clear h;have H' := am0 H;clear H;go_enter Tryd.func9,Tryd.ntmps9
 go_wp2
 go_loopg [3] k (fun kq v3 w' => ∃ (x3_1 : Int),v3 = .int .i64 x3_1 ∧ Aside0 (quoinref23_Great.l0 kq l0 x3_1 = some r) ∧ Aside0 (kq ≤ k) ∧ Aside0 (Below w.heap.size w w'))
 case atStart => exact ⟨(0),(by first | rfl | (simp;done) | (simp [*];done)),H',⟨Nat.le_refl _⟩,⟨by repeat (first | (with_reducible first | exact HB.out | apply below_alloc | apply pw_below_drewN | apply below_drew1) | exact HB.out)⟩⟩
 case round =>
  clear H';obtain ⟨x3_1,rfl,HA,HK1,HB⟩ := hrel
  cases gk with
  | zero => exact absurd HA.out (by simp [quoinref23_Great.l0])
  | succ k1 =>
   have H := HA.out;clear HA;simp only [quoinref23_Great.l0] at H;have HC2 := am0 H;clear H;go_upto_region 2 with (fail)
   go_cut [11] (fun v11 wc => ∃ (kq : Nat) (x11_1 : Bool),v11 = .bool x11_1 ∧ Aside0 (quoinref23_Great.j1 kq l0 x3_1 x11_1 = some r) ∧ Aside0 (kq ≤ k1) ∧ Aside0 (Below w.heap.size w wc))
   case first =>
    have H := HC2.out;clear HC2
    by_cases c3 : x3_1 < (l0.length : Int)
    ·rw [if_pos c3] at H
     have c3b0 : decide (x3_1 < (l0.length : Int)) = true := decide_eq_true c3;clear c3
     (first | rw [c3b0] | (simp only [i64_w,i32_w];rw [c3b0]) | skip)
     have H' := am0 H;clear H;go_wp2
     go_meet
     case rel => exact ⟨_,(decide (x3_1 < 20)),(by first | rfl | (simp;done) | (simp [*];done)),H',⟨by have := HK1.out;first | omega | exact Nat.le_refl _⟩,⟨by repeat (first | (with_reducible first | exact HB.out | apply below_alloc | apply pw_below_drewN | apply below_drew1) | exact HB.out)⟩⟩
    rw [if_neg c3] at H;have c3b0 : decide (x3_1 < (l0.length : Int)) = false := decide_eq_false c3;clear c3
    (first | rw [c3b0] | (simp only [i64_w,i32_w];rw [c3b0]) | skip)
    have H' := am0 H;clear H;go_wp2
    go_meet
    case rel => exact ⟨_,(false),(by first | rfl | (simp;done) | (simp [*];done)),H',⟨by have := HK1.out;first | omega | exact Nat.le_refl _⟩,⟨by repeat (first | (with_reducible first | exact HB.out | apply below_alloc | apply pw_below_drewN | apply below_drew1) | exact HB.out)⟩⟩
   case rest =>
    clear HC2;try clear p2
    try clear c3
    try clear c3b0
    obtain ⟨kq,x11_1,rfl,HA,HJ1,HB⟩ := hcut
    cases kq with
    | zero => exact absurd HA.out (by simp [quoinref23_Great.j1])
    | succ kj1 =>
     have H := HA.out;clear HA;simp only [quoinref23_Great.j1] at H
     by_cases c4 : x11_1 = true
     ·subst c4
      have H1 : (if 0 ≤ x3_1 then (if x3_1 < (l0.length : Int) then ((quoinref12_Great.f kj1 ((rd_T38 l0 x3_1).f2.f0) ((rd_T38 l0 x3_1).f2.f1) ((rd_T38 l0 x3_1).f2.f2) ((rd_T38 l0 x3_1).f2.f3)).bind fun t156 => (if t156 = true then (some true) else (if (((rd_T38 l0 x3_1).f3).length : Int) > 40 then (some true) else (quoinref23_Great.l0 kj1 l0 (wrap64 (x3_1 + 1)))))) else (none)) else (none)) = some r := by rw [if_pos rfl] at H;exact H
      clear H;have H := H1;clear H1
      by_cases c5 : 0 ≤ x3_1
      ·rw [if_pos c5] at H
       have c5b0 : decide (0 ≤ x3_1) = true := decide_eq_true c5;clear c5
       by_cases c6 : x3_1 < (l0.length : Int)
       ·rw [if_pos c6] at H
        have c6b0 : decide (x3_1 < (l0.length : Int)) = true := decide_eq_true c6;clear c6;replace H := Option.bind_eq_some_iff.mp H;obtain ⟨t156,A70,H⟩ := H;replace H : (if t156 = true then (some true) else (if (((rd_T38 l0 x3_1).f3).length : Int) > 40 then (some true) else (quoinref23_Great.l0 kj1 l0 (wrap64 (x3_1 + 1))))) = some r := H;have A7 := am0 A70;clear A70
        by_cases c8 : t156 = true
        ·subst c8
         have H1 : (some true) = some r := by rw [if_pos rfl] at H;exact H
         clear H;have H := H1;clear H1;obtain rfl := Option.some.inj H;have p155 : 0 ≤ (x3_1 : Int) := of_decide_eq_true (by first | (with_reducible assumption) | assumption);have q155 : x3_1 < (l0.length : Int) := of_decide_eq_true (by first | (with_reducible assumption) | assumption);obtain ⟨ad155,A155_2,c155_2,A155_3,c155_3,A155_4,c155_4,A155_5,c155_5,A155_6,c155_6,e155,hx155_0,hx155_1,hx155_2,hx155_3,hx155_4,hx155_5,hx155_6,hl155_2,hi155_2,hl155_3,hi155_3,hl155_4,hi155_4,hl155_5,hi155_5,hl155_6,hi155_6⟩ := at_T38 HR0.out x3_1 p155 q155;cases e155;replace hx155_0 := (HB.out.cell (World.block_lt_of_cell? w _ hx155_0)).trans hx155_0;replace hx155_1 := (HB.out.cell (World.block_lt_of_cell? w _ hx155_1)).trans hx155_1;replace hx155_2 := (HB.out.cell (World.block_lt_of_cell? w _ hx155_2)).trans hx155_2;replace hx155_3 := (HB.out.cell (World.block_lt_of_cell? w _ hx155_3)).trans hx155_3;replace hx155_4 := (HB.out.cell (World.block_lt_of_cell? w _ hx155_4)).trans hx155_4;replace hx155_5 := (HB.out.cell (World.block_lt_of_cell? w _ hx155_5)).trans hx155_5;replace hx155_6 := (HB.out.cell (World.block_lt_of_cell? w _ hx155_6)).trans hx155_6;have HR155_2 := am0 hi155_2;have HC155_2 := am0 hl155_2;clear hi155_2 hl155_2;have HR155_3 := am0 hi155_3;have HC155_3 := am0 hl155_3;clear hi155_3 hl155_3;have HR155_4 := am0 hi155_4;have HC155_4 := am0 hl155_4;clear hi155_4 hl155_4;have HR155_5 := am0 hi155_5;have HC155_5 := am0 hl155_5;clear hi155_5 hl155_5;have HR155_6 := am0 hi155_6;have HC155_6 := am0 hl155_6;clear hi155_6 hl155_6;replace p155 := eq_true p155;replace q155 := eq_true q155;go_wp2_with (first | ((with_reducible refine gate_callee (f := 21) rfl ?_);refine goesL_ (some 19) rfl rfl Tryd.func21 (by kernel_rfl) rfl #[.agg #[.slice A155_2 ((rd_T38 l0 x3_1).f2.f0).length c155_2, .slice A155_3 ((rd_T38 l0 x3_1).f2.f1).length c155_3, .slice A155_4 ((rd_T38 l0 x3_1).f2.f2).length c155_4, .slice A155_5 ((rd_T38 l0 x3_1).f2.f3).length c155_5]] rfl (by (try simp only [List.map_toArray,List.map_cons,List.map_nil]);first | done | rfl | (simp only [List.length_drop,List.length_take];rfl)) ?_;(with_reducible refine (quoinref12_Great.calls kj1 _ _ ((rd_T38 l0 x3_1).f2.f0) _ _ ((rd_T38 l0 x3_1).f2.f1) _ _ ((rd_T38 l0 x3_1).f2.f2) _ _ ((rd_T38 l0 x3_1).f2.f3) true _ ?side1 ?side2 ?side3 ?side4 ?side5 ?side6 ?side7 ?side8 A7.out).mono ?_);(case side1 => repeat (first | exact (Kd.C_below HR155_2.out HB.out) | (with_reducible refine Kd.C_alloc ?_ _) | (with_reducible refine Kd.C_drewN ?_ _) | (with_reducible refine Kd.C_drew ?_)));(case side2 => exact HC155_2.out);(case side3 => repeat (first | exact (Kd.C_below HR155_3.out HB.out) | (with_reducible refine Kd.C_alloc ?_ _) | (with_reducible refine Kd.C_drewN ?_ _) | (with_reducible refine Kd.C_drew ?_)));(case side4 => exact HC155_3.out);(case side5 => repeat (first | exact (Kd.C_below HR155_4.out HB.out) | (with_reducible refine Kd.C_alloc ?_ _) | (with_reducible refine Kd.C_drewN ?_ _) | (with_reducible refine Kd.C_drew ?_)));(case side6 => exact HC155_4.out);(case side7 => repeat (first | exact (Kd.C_below HR155_5.out HB.out) | (with_reducible refine Kd.C_alloc ?_ _) | (with_reducible refine Kd.C_drewN ?_ _) | (with_reducible refine Kd.C_drew ?_)));(case side8 => exact HC155_5.out);rintro e w9 ⟨rfl,hb⟩;refine ⟨_,rfl, ?_⟩;have n0_ := am0 (below_step (by repeat (first | (with_reducible first | exact HB.out | apply below_alloc | apply pw_below_drewN | apply below_drew1) | exact HB.out)) hb);clear HB;have HB := n0_;clear n0_;(try clear hb);(try clear hb2);(try clear hk);(try clear hi)))
         go_ret
         exact ⟨by first | rfl | (simp [errW_none,errW_some] <;> rfl) | (simp [*,errW_none,errW_some] <;> rfl),by repeat (first | (with_reducible first | exact HB.out | apply below_alloc | apply pw_below_drewN | apply below_drew1) | exact HB.out)⟩
        replace c8 := Bool.eq_false_iff.mpr c8;subst c8;have H1 : (if (((rd_T38 l0 x3_1).f3).length : Int) > 40 then (some true) else (quoinref23_Great.l0 kj1 l0 (wrap64 (x3_1 + 1)))) = some r := by rw [if_neg (show ¬ (false = true) by decide)] at H;exact H
        clear H;have H := H1;clear H1
        by_cases c10 : (((rd_T38 l0 x3_1).f3).length : Int) > 40
        ·rw [if_pos c10] at H
         have c10b0 : decide (40 < (((rd_T38 l0 x3_1).f3).length : Int)) = true := decide_eq_true c10;have c10b1 : decide (40 < ((rd_T38 l0 x3_1).f3).length) = true := decide_eq_true (by omega);clear c10;obtain rfl := Option.some.inj H;have p155 : 0 ≤ (x3_1 : Int) := of_decide_eq_true (by first | (with_reducible assumption) | assumption);have q155 : x3_1 < (l0.length : Int) := of_decide_eq_true (by first | (with_reducible assumption) | assumption);obtain ⟨ad155,A155_2,c155_2,A155_3,c155_3,A155_4,c155_4,A155_5,c155_5,A155_6,c155_6,e155,hx155_0,hx155_1,hx155_2,hx155_3,hx155_4,hx155_5,hx155_6,hl155_2,hi155_2,hl155_3,hi155_3,hl155_4,hi155_4,hl155_5,hi155_5,hl155_6,hi155_6⟩ := at_T38 HR0.out x3_1 p155 q155;cases e155;replace hx155_0 := (HB.out.cell (World.block_lt_of_cell? w _ hx155_0)).trans hx155_0;replace hx155_1 := (HB.out.cell (World.block_lt_of_cell? w _ hx155_1)).trans hx155_1;replace hx155_2 := (HB.out.cell (World.block_lt_of_cell? w _ hx155_2)).trans hx155_2;replace hx155_3 := (HB.out.cell (World.block_lt_of_cell? w _ hx155_3)).trans hx155_3;replace hx155_4 := (HB.out.cell (World.block_lt_of_cell? w _ hx155_4)).trans hx155_4;replace hx155_5 := (HB.out.cell (World.block_lt_of_cell? w _ hx155_5)).trans hx155_5;replace hx155_6 := (HB.out.cell (World.block_lt_of_cell? w _ hx155_6)).trans hx155_6;have HR155_2 := am0 hi155_2;have HC155_2 := am0 hl155_2;clear hi155_2 hl155_2;have HR155_3 := am0 hi155_3;have HC155_3 := am0 hl155_3;clear hi155_3 hl155_3;have HR155_4 := am0 hi155_4;have HC155_4 := am0 hl155_4;clear hi155_4 hl155_4;have HR155_5 := am0 hi155_5;have HC155_5 := am0 hl155_5;clear hi155_5 hl155_5;have HR155_6 := am0 hi155_6;have HC155_6 := am0 hl155_6;clear hi155_6 hl155_6;replace p155 := eq_true p155;replace q155 := eq_true q155;go_wp2_with (first | ((with_reducible refine gate_callee (f := 21) rfl ?_);refine goesL_ (some 19) rfl rfl Tryd.func21 (by kernel_rfl) rfl #[.agg #[.slice A155_2 ((rd_T38 l0 x3_1).f2.f0).length c155_2, .slice A155_3 ((rd_T38 l0 x3_1).f2.f1).length c155_3, .slice A155_4 ((rd_T38 l0 x3_1).f2.f2).length c155_4, .slice A155_5 ((rd_T38 l0 x3_1).f2.f3).length c155_5]] rfl (by (try simp only [List.map_toArray,List.map_cons,List.map_nil]);first | done | rfl | (simp only [List.length_drop,List.length_take];rfl)) ?_;(with_reducible refine (quoinref12_Great.calls kj1 _ _ ((rd_T38 l0 x3_1).f2.f0) _ _ ((rd_T38 l0 x3_1).f2.f1) _ _ ((rd_T38 l0 x3_1).f2.f2) _ _ ((rd_T38 l0 x3_1).f2.f3) false _ ?side1 ?side2 ?side3 ?side4 ?side5 ?side6 ?side7 ?side8 A7.out).mono ?_);(case side1 => repeat (first | exact (Kd.C_below HR155_2.out HB.out) | (with_reducible refine Kd.C_alloc ?_ _) | (with_reducible refine Kd.C_drewN ?_ _) | (with_reducible refine Kd.C_drew ?_)));(case side2 => exact HC155_2.out);(case side3 => repeat (first | exact (Kd.C_below HR155_3.out HB.out) | (with_reducible refine Kd.C_alloc ?_ _) | (with_reducible refine Kd.C_drewN ?_ _) | (with_reducible refine Kd.C_drew ?_)));(case side4 => exact HC155_3.out);(case side5 => repeat (first | exact (Kd.C_below HR155_4.out HB.out) | (with_reducible refine Kd.C_alloc ?_ _) | (with_reducible refine Kd.C_drewN ?_ _) | (with_reducible refine Kd.C_drew ?_)));(case side6 => exact HC155_4.out);(case side7 => repeat (first | exact (Kd.C_below HR155_5.out HB.out) | (with_reducible refine Kd.C_alloc ?_ _) | (with_reducible refine Kd.C_drewN ?_ _) | (with_reducible refine Kd.C_drew ?_)));(case side8 => exact HC155_5.out);rintro e w11 ⟨rfl,hb⟩;refine ⟨_,rfl, ?_⟩;have n0_ := am0 (below_step (by repeat (first | (with_reducible first | exact HB.out | apply below_alloc | apply pw_below_drewN | apply below_drew1) | exact HB.out)) hb);clear HB;have HB := n0_;clear n0_;(try clear hb);(try clear hb2);(try clear hk);(try clear hi);have p157 : 0 ≤ (x3_1 : Int) := of_decide_eq_true (by first | (with_reducible assumption) | assumption);have q157 : x3_1 < (l0.length : Int) := of_decide_eq_true (by first | (with_reducible assumption) | assumption);obtain ⟨ad157,A157_2,c157_2,A157_3,c157_3,A157_4,c157_4,A157_5,c157_5,A157_6,c157_6,e157,hx157_0,hx157_1,hx157_2,hx157_3,hx157_4,hx157_5,hx157_6,hl157_2,hi157_2,hl157_3,hi157_3,hl157_4,hi157_4,hl157_5,hi157_5,hl157_6,hi157_6⟩ := at_T38 HR0.out x3_1 p157 q157;obtain rfl : ad155 = ad157 := (by injection e157);replace hx157_0 := (HB.out.cell (World.block_lt_of_cell? w _ hx157_0)).trans hx157_0;replace hx157_1 := (HB.out.cell (World.block_lt_of_cell? w _ hx157_1)).trans hx157_1;replace hx157_2 := (HB.out.cell (World.block_lt_of_cell? w _ hx157_2)).trans hx157_2;replace hx157_3 := (HB.out.cell (World.block_lt_of_cell? w _ hx157_3)).trans hx157_3;replace hx157_4 := (HB.out.cell (World.block_lt_of_cell? w _ hx157_4)).trans hx157_4;replace hx157_5 := (HB.out.cell (World.block_lt_of_cell? w _ hx157_5)).trans hx157_5;replace hx157_6 := (HB.out.cell (World.block_lt_of_cell? w _ hx157_6)).trans hx157_6;have HR157_2 := am0 hi157_2;have HC157_2 := am0 hl157_2;clear hi157_2 hl157_2;have HR157_3 := am0 hi157_3;have HC157_3 := am0 hl157_3;clear hi157_3 hl157_3;have HR157_4 := am0 hi157_4;have HC157_4 := am0 hl157_4;clear hi157_4 hl157_4;have HR157_5 := am0 hi157_5;have HC157_5 := am0 hl157_5;clear hi157_5 hl157_5;have HR157_6 := am0 hi157_6;have HC157_6 := am0 hl157_6;clear hi157_6 hl157_6;replace p157 := eq_true p157;replace q157 := eq_true q157))
         go_ret
         exact ⟨by first | rfl | (simp [errW_none,errW_some] <;> rfl) | (simp [*,errW_none,errW_some] <;> rfl),by repeat (first | (with_reducible first | exact HB.out | apply below_alloc | apply pw_below_drewN | apply below_drew1) | exact HB.out)⟩
        rw [if_neg c10] at H;have c10b0 : decide (40 < (((rd_T38 l0 x3_1).f3).length : Int)) = false := decide_eq_false c10;have c10b1 : decide (40 < ((rd_T38 l0 x3_1).f3).length) = false := decide_eq_false (by omega);clear c10;have H' := am0 H;clear H;have p155 : 0 ≤ (x3_1 : Int) := of_decide_eq_true (by first | (with_reducible assumption) | assumption);have q155 : x3_1 < (l0.length : Int) := of_decide_eq_true (by first | (with_reducible assumption) | assumption);obtain ⟨ad155,A155_2,c155_2,A155_3,c155_3,A155_4,c155_4,A155_5,c155_5,A155_6,c155_6,e155,hx155_0,hx155_1,hx155_2,hx155_3,hx155_4,hx155_5,hx155_6,hl155_2,hi155_2,hl155_3,hi155_3,hl155_4,hi155_4,hl155_5,hi155_5,hl155_6,hi155_6⟩ := at_T38 HR0.out x3_1 p155 q155;cases e155;replace hx155_0 := (HB.out.cell (World.block_lt_of_cell? w _ hx155_0)).trans hx155_0;replace hx155_1 := (HB.out.cell (World.block_lt_of_cell? w _ hx155_1)).trans hx155_1;replace hx155_2 := (HB.out.cell (World.block_lt_of_cell? w _ hx155_2)).trans hx155_2;replace hx155_3 := (HB.out.cell (World.block_lt_of_cell? w _ hx155_3)).trans hx155_3;replace hx155_4 := (HB.out.cell (World.block_lt_of_cell? w _ hx155_4)).trans hx155_4;replace hx155_5 := (HB.out.cell (World.block_lt_of_cell? w _ hx155_5)).trans hx155_5;replace hx155_6 := (HB.out.cell (World.block_lt_of_cell? w _ hx155_6)).trans hx155_6;have HR155_2 := am0 hi155_2;have HC155_2 := am0 hl155_2;clear hi155_2 hl155_2;have HR155_3 := am0 hi155_3;have HC155_3 := am0 hl155_3;clear hi155_3 hl155_3;have HR155_4 := am0 hi155_4;have HC155_4 := am0 hl155_4;clear hi155_4 hl155_4;have HR155_5 := am0 hi155_5;have HC155_5 := am0 hl155_5;clear hi155_5 hl155_5;have HR155_6 := am0 hi155_6;have HC155_6 := am0 hl155_6;clear hi155_6 hl155_6;replace p155 := eq_true p155;replace q155 := eq_true q155;go_wp2_with (first | ((with_reducible refine gate_callee (f := 21) rfl ?_);refine goesL_ (some 19) rfl rfl Tryd.func21 (by kernel_rfl) rfl #[.agg #[.slice A155_2 ((rd_T38 l0 x3_1).f2.f0).length c155_2, .slice A155_3 ((rd_T38 l0 x3_1).f2.f1).length c155_3, .slice A155_4 ((rd_T38 l0 x3_1).f2.f2).length c155_4, .slice A155_5 ((rd_T38 l0 x3_1).f2.f3).length c155_5]] rfl (by (try simp only [List.map_toArray,List.map_cons,List.map_nil]);first | done | rfl | (simp only [List.length_drop,List.length_take];rfl)) ?_;(with_reducible refine (quoinref12_Great.calls kj1 _ _ ((rd_T38 l0 x3_1).f2.f0) _ _ ((rd_T38 l0 x3_1).f2.f1) _ _ ((rd_T38 l0 x3_1).f2.f2) _ _ ((rd_T38 l0 x3_1).f2.f3) false _ ?side1 ?side2 ?side3 ?side4 ?side5 ?side6 ?side7 ?side8 A7.out).mono ?_);(case side1 => repeat (first | exact (Kd.C_below HR155_2.out HB.out) | (with_reducible refine Kd.C_alloc ?_ _) | (with_reducible refine Kd.C_drewN ?_ _) | (with_reducible refine Kd.C_drew ?_)));(case side2 => exact HC155_2.out);(case side3 => repeat (first | exact (Kd.C_below HR155_3.out HB.out) | (with_reducible refine Kd.C_alloc ?_ _) | (with_reducible refine Kd.C_drewN ?_ _) | (with_reducible refine Kd.C_drew ?_)));(case side4 => exact HC155_3.out);(case side5 => repeat (first | exact (Kd.C_below HR155_4.out HB.out) | (with_reducible refine Kd.C_alloc ?_ _) | (with_reducible refine Kd.C_drewN ?_ _) | (with_reducible refine Kd.C_drew ?_)));(case side6 => exact HC155_4.out);(case side7 => repeat (first | exact (Kd.C_below HR155_5.out HB.out) | (with_reducible refine Kd.C_alloc ?_ _) | (with_reducible refine Kd.C_drewN ?_ _) | (with_reducible refine Kd.C_drew ?_)));(case side8 => exact HC155_5.out);rintro e w12 ⟨rfl,hb⟩;refine ⟨_,rfl, ?_⟩;have n0_ := am0 (below_step (by repeat (first | (with_reducible first | exact HB.out | apply below_alloc | apply pw_below_drewN | apply below_drew1) | exact HB.out)) hb);clear HB;have HB := n0_;clear n0_;(try clear hb);(try clear hb2);(try clear hk);(try clear hi);have p157 : 0 ≤ (x3_1 : Int) := of_decide_eq_true (by first | (with_reducible assumption) | assumption);have q157 : x3_1 < (l0.length : Int) := of_decide_eq_true (by first | (with_reducible assumption) | assumption);obtain ⟨ad157,A157_2,c157_2,A157_3,c157_3,A157_4,c157_4,A157_5,c157_5,A157_6,c157_6,e157,hx157_0,hx157_1,hx157_2,hx157_3,hx157_4,hx157_5,hx157_6,hl157_2,hi157_2,hl157_3,hi157_3,hl157_4,hi157_4,hl157_5,hi157_5,hl157_6,hi157_6⟩ := at_T38 HR0.out x3_1 p157 q157;obtain rfl : ad155 = ad157 := (by injection e157);replace hx157_0 := (HB.out.cell (World.block_lt_of_cell? w _ hx157_0)).trans hx157_0;replace hx157_1 := (HB.out.cell (World.block_lt_of_cell? w _ hx157_1)).trans hx157_1;replace hx157_2 := (HB.out.cell (World.block_lt_of_cell? w _ hx157_2)).trans hx157_2;replace hx157_3 := (HB.out.cell (World.block_lt_of_cell? w _ hx157_3)).trans hx157_3;replace hx157_4 := (HB.out.cell (World.block_lt_of_cell? w _ hx157_4)).trans hx157_4;replace hx157_5 := (HB.out.cell (World.block_lt_of_cell? w _ hx157_5)).trans hx157_5;replace hx157_6 := (HB.out.cell (World.block_lt_of_cell? w _ hx157_6)).trans hx157_6;have HR157_2 := am0 hi157_2;have HC157_2 := am0 hl157_2;clear hi157_2 hl157_2;have HR157_3 := am0 hi157_3;have HC157_3 := am0 hl157_3;clear hi157_3 hl157_3;have HR157_4 := am0 hi157_4;have HC157_4 := am0 hl157_4;clear hi157_4 hl157_4;have HR157_5 := am0 hi157_5;have HC157_5 := am0 hl157_5;clear hi157_5 hl157_5;have HR157_6 := am0 hi157_6;have HC157_6 := am0 hl157_6;clear hi157_6 hl157_6;replace p157 := eq_true p157;replace q157 := eq_true q157))
        go_roundg kj1
        case measure => have := HK1.out;have := HJ1.out;omega
        case rel => exact ⟨(wrap64 (x3_1 + 1)),(by first | rfl | (simp;done) | (simp [*];done)),H',⟨by have := HK1.out;have := HJ1.out;omega⟩,⟨by repeat (first | (with_reducible first | exact HB.out | apply below_alloc | apply pw_below_drewN | apply below_drew1) | exact HB.out)⟩⟩
       rw [if_neg c6] at H;exact absurd H (by simp)
      rw [if_neg c5] at H;exact absurd H (by simp)
     replace c4 := Bool.eq_false_iff.mpr c4;subst c4;have H1 : (if (l0.length : Int) > 12 then (if (l0.length : Int) ≤ 64 then (some true) else (some (decide ((l0.length : Int) > 80)))) else (some (decide ((l0.length : Int) > 80)))) = some r := by rw [if_neg (show ¬ (false = true) by decide)] at H;exact H
     clear H;have H := H1;clear H1
     by_cases c13 : (l0.length : Int) > 12
     ·rw [if_pos c13] at H
      have c13b0 : decide (12 < (l0.length : Int)) = true := decide_eq_true c13;have c13b1 : decide (12 < l0.length) = true := decide_eq_true (by omega);clear c13
      by_cases c14 : (l0.length : Int) ≤ 64
      ·rw [if_pos c14] at H
       have c14b0 : decide ((l0.length : Int) ≤ 64) = true := decide_eq_true c14;have c14b1 : decide (l0.length ≤ 64) = true := decide_eq_true (by omega);clear c14;obtain rfl := Option.some.inj H;go_wp2
       go_ret
       exact ⟨by first | rfl | (simp [errW_none,errW_some] <;> rfl) | (simp [*,errW_none,errW_some] <;> rfl),by repeat (first | (with_reducible first | exact HB.out | apply below_alloc | apply pw_below_drewN | apply below_drew1) | exact HB.out)⟩
      rw [if_neg c14] at H;have c14b0 : decide ((l0.length : Int) ≤ 64) = false := decide_eq_false c14;have c14b1 : decide (l0.length ≤ 64) = false := decide_eq_false (by omega);clear c14;obtain rfl := Option.some.inj H;go_wp2
      go_ret
      exact ⟨by first | rfl | (simp [errW_none,errW_some] <;> rfl) | (simp [*,errW_none,errW_some] <;> rfl),by repeat (first | (with_reducible first | exact HB.out | apply below_alloc | apply pw_below_drewN | apply below_drew1) | exact HB.out)⟩
     rw [if_neg c13] at H;have c13b0 : decide (12 < (l0.length : Int)) = false := decide_eq_false c13;have c13b1 : decide (12 < l0.length) = false := decide_eq_false (by omega);clear c13;obtain rfl := Option.some.inj H;go_wp2
     go_ret
     exact ⟨by first | rfl | (simp [errW_none,errW_some] <;> rfl) | (simp [*,errW_none,errW_some] <;> rfl),by repeat (first | (with_reducible first | exact HB.out | apply below_alloc | apply pw_below_drewN | apply below_drew1) | exact HB.out)⟩
end Go.Proofs.YtalomolellcefaaDoor.Q
namespace Go.Proofs.YtalomolellcefaaDoor.Q
open Go.RowKit Go.Proofs.YtalomolellcefaaDoorW.PrintWords Go.Proofs.YtalomolellcefaaDoorW.PrintLast Go.Proofs.YtalomolellcefaaDoorW.PrintMore
section
variable (s : List S72) (y : List S40) (r : List S94) (g : List S68)
theorem g12_l2 : ∀ (m i : Nat),40 ≤ i + m → ∀ x3,Tot (fun k => quoinref12_Great.l2 k x3 (i : Int) s y r g)
 | 0,i,h,x3 => by
  have h1 : ¬ (i : Int) < 40 := by omega
  refine Tot.shift ?_;simp only [quoinref12_Great.l2,if_neg h1];repeat' first | exact Tot.const _ | refine Tot.ite (fun _ => ?_) (fun _ => ?_)
 | m + 1,i,h,x3 => by
  have h0 : (0 : Int) ≤ (i : Int) := by omega
  refine Tot.shift ?_;simp only [quoinref12_Great.l2,if_pos h0];refine Tot.ite (fun _ => Tot.ite (fun hc => ?_) (fun _ => ?_)) (fun _ => ?_)
  ·have hw : wrap64 ((i : Int) + 1) = ((i + 1 : Nat) : Int) := by rw [w64] <;> omega
   simp only [hw];exact g12_l2 m (i + 1) (by omega) _
  all_goals repeat' first | exact Tot.const _ | refine Tot.ite (fun _ => ?_) (fun _ => ?_)
theorem g12_j3 (x3 : Int) : Tot (fun k => quoinref12_Great.j3 k x3 s y r g) := by
 refine Tot.shift ?_;simp only [quoinref12_Great.j3];exact g12_l2 s y r g 40 0 (by omega) x3
theorem g12_l1 : ∀ (m i : Nat),200 ≤ i + m → ∀ x3,Tot (fun k => quoinref12_Great.l1 k x3 (i : Int) s y r g)
 | 0,i,h,x3 => by
  have h1 : ¬ (i : Int) < 200 := by omega
  refine Tot.shift ?_;simp only [quoinref12_Great.l1,if_neg h1];exact Tot.ite (fun _ => g12_j3 s y r g _) (fun _ => g12_j3 s y r g _)
 | m + 1,i,h,x3 => by
  have h0 : (0 : Int) ≤ (i : Int) := by omega
  refine Tot.shift ?_;simp only [quoinref12_Great.l1,if_pos h0];refine Tot.ite (fun _ => Tot.ite (fun hc => ?_) (fun _ => g12_j3 s y r g _)) (fun _ => g12_j3 s y r g _);have hw : wrap64 ((i : Int) + 1) = ((i + 1 : Nat) : Int) := by rw [w64] <;> omega
  simp only [hw];exact g12_l1 m (i + 1) (by omega) _
theorem g12_j1 (x3 : Int) : Tot (fun k => quoinref12_Great.j1 k x3 s y r g) := by
 refine Tot.shift ?_;simp only [quoinref12_Great.j1];exact g12_l1 s y r g 200 0 (by omega) x3
theorem g12_l0 : ∀ (m i : Nat),40 ≤ i + m → ∀ x3,Tot (fun k => quoinref12_Great.l0 k x3 (i : Int) s y r g)
 | 0,i,h,x3 => by
  have h1 : ¬ (i : Int) < 40 := by omega
  refine Tot.shift ?_;simp only [quoinref12_Great.l0,if_neg h1];exact Tot.ite (fun _ => g12_j1 s y r g _) (fun _ => g12_j1 s y r g _)
 | m + 1,i,h,x3 => by
  have h0 : (0 : Int) ≤ (i : Int) := by omega
  refine Tot.shift ?_;simp only [quoinref12_Great.l0,if_pos h0];refine Tot.ite (fun _ => Tot.ite (fun hc => ?_) (fun _ => g12_j1 s y r g _)) (fun _ => g12_j1 s y r g _);have hw : wrap64 ((i : Int) + 1) = ((i + 1 : Nat) : Int) := by rw [w64] <;> omega
  simp only [hw];exact g12_l0 m (i + 1) (by omega) _
theorem g12_tot : Tot (fun k => quoinref12_Great.f k s y r g) := g12_l0 s y r g 40 0 (by omega) 0
end
theorem g23_l0 (l : List S38) : ∀ (m i : Nat),20 ≤ i + m → Tot (fun k => quoinref23_Great.l0 k l (i : Int))
 | m,i,h => by
  have h0 : (0 : Int) ≤ (i : Int) := by omega
  have hend : ∀ b,b = false → Tot (fun k => quoinref23_Great.j1 k l (i : Int) b) := by
   rintro b rfl
   refine Tot.shift ?_;simp only [quoinref23_Great.j1,Bool.false_eq_true,if_false];repeat' first | exact Tot.const _ | refine Tot.ite (fun _ => ?_) (fun _ => ?_)
  refine Tot.shift ?_;simp only [quoinref23_Great.l0];refine Tot.ite (fun hlt => ?_) (fun _ => hend _ rfl)
  by_cases h20 : (i : Int) < 20
  ·match m,h with
   | 0,h => omega
   | m + 1,h =>
    rw [decide_eq_true h20];refine Tot.shift ?_;simp only [quoinref23_Great.j1,if_true,if_pos h0,if_pos hlt];refine Tot.bind (g12_tot _ _ _ _) (fun v _ => Tot.ite (fun _ => Tot.const _) (fun _ => Tot.ite (fun _ => Tot.const _) (fun _ => ?_)));have hw : wrap64 ((i : Int) + 1) = ((i + 1 : Nat) : Int) := by rw [w64] <;> omega
    simp only [hw];exact g23_l0 l m (i + 1) (by omega)
  exact hend _ (decide_eq_false h20)
theorem great_tot (l : List S38) : ∃ b k,quoinref23_Great.f k l = some b := by
 obtain ⟨b,h⟩ := g23_l0 l 20 0 (by omega);obtain ⟨k,hk⟩ := h.at;exact ⟨b,k,hk⟩
end Go.Proofs.YtalomolellcefaaDoor.Q
namespace Go.Proofs.YtalomolellcefaaDoor.Q
open Go.RowKit Go.Proofs.YtalomolellcefaaDoorW.PrintWords Go.Proofs.YtalomolellcefaaDoorW.PrintLast Go.Proofs.YtalomolellcefaaDoorW.PrintMore Go.Proofs.YtalomolellcefaaDoor.Maps
theorem rowV_get (t : Tab) (k : S38) (i : Int) : ∀ (l : List S40) (n j : Nat),j < l.length → (rowV t k i n l).getD j z43 = boundOf t k i ((n + j : Nat) : Int) (l.getD j z40)
 | s :: l,n,0,_ => rfl
 | s :: l,n,j + 1,h => by
  rw [rowV,List.getD_cons_succ,List.getD_cons_succ,rowV_get t k i l (n + 1) j (by simpa using h),show n + 1 + j = n + (j + 1) by omega]
theorem rowsV_get (t : Tab) : ∀ (l : List S38) (n j : Nat),j < l.length → (rowsV t n l).getD j [] = rowV t (l.getD j z38) ((n + j : Nat) : Int) 0 (l.getD j z38).f2.f1
 | s :: l,n,0,_ => rfl
 | s :: l,n,j + 1,h => by
  rw [rowsV,List.getD_cons_succ,List.getD_cons_succ,rowsV_get t l (n + 1) j (by simpa using h),show n + 1 + j = n + (j + 1) by omega]
theorem rows_at (t : Tab) {l : List S38} {i : Nat} (hi : i < l.length) : rd_L19 (rowsV t 0 l) (i : Int) = rowV t (rd_T38 l (i : Int)) (i : Int) 0 (rd_T38 l (i : Int)).f2.f1 := by
 have := rowsV_get t l 0 i hi;rw [Nat.zero_add] at this;exact this
theorem row_at (t : Tab) (k : S38) (i : Int) {l : List S40} {j : Nat} (hj : j < l.length) : rd_T43 (rowV t k i 0 l) (j : Int) = boundOf t k i (j : Int) (rd_T40 l (j : Int)) := by
 have := rowV_get t k i l 0 j hj;rw [Nat.zero_add] at this;exact this
set_option maxHeartbeats 40000000 in
set_option maxRecDepth 100000 in
theorem right_walk (A0 : Option Addr) (c0 : Nat) (l0 : List (S38)) (w : World) (hG : GlobOK w) (hr0 : Kd.C k38 w A0 l0.length l0) (hc0 : l0.length ≤ c0) (hfit : ∀ k ∈ l0,KeptFit k) :
  Calls Tryd.prog 3 #[.slice A0 l0.length c0] w fun e w' => e = .returned (.bool true) ∧ Below w.heap.size w w' := by
 have hu35 := Tryd.underlying35;have hu38 := Tryd.underlying38;have hu40 := Tryd.underlying40;have hu43 := Tryd.underlying43;obtain ⟨gb,gk,hgr⟩ := great_tot l0;have HGT := am0 hgr;have HC := am0 hr0;have HF := am0 hfit;have HGL := am0 hG;have HB := am0 (Below.refl w.heap.size w);have HBF := am0 (show resolve_Bind.f l0 = some (bindV l0) by unfold resolve_Bind.f;rw [if_pos hfit]);clear hr0 hfit hG hgr;go_enter Tryd.func3,Tryd.ntmps3
 go_wp2_with fail
 refine (quoinlaw23_alive.calls 60 true _ (HGL.out.below HB.out) alive_true).mono ?_
 rintro e w1 ⟨rfl,hb⟩
 have HB1 := am0 (below_step HB.out hb);clear hb;go_wp2_with fail
 refine (quoinref23_Great.calls gk A0 c0 l0 gb _ (Kd.C_below HC.out HB1.out) hc0 HGT.out).mono ?_
 rintro e w2 ⟨rfl,hb⟩
 have HB2 := am0 (below_step HB1.out hb);clear hb;cases gb
 case true =>
  go_wp2
  go_ret
  exact ⟨rfl,HB2.out⟩
 case false =>
  clear HGT HB1;obtain ⟨rows,ec⟩ : ∃ r : List (List S43) × Int,bindV l0 = r := ⟨_,rfl⟩;obtain ⟨r1,r2⟩ := rows;rw [ec] at HBF;have HEC := am0 ec;clear ec;go_wp2_with fail
  refine (resolve_Bind.calls A0 c0 l0 r1 r2 _ (HGL.out.below HB2.out) (Kd.C_below HC.out HB2.out) hc0 HBF.out).mono ?_
  rintro e w3 ⟨ov,rfl,hv,hb⟩
  obtain ⟨AB,cb,rfl,hcb,hrb⟩ := Kd.S_reads hv;have HB3 := am0 (below_step HB2.out hb);have HRB := am0 hrb;have HCB := am0 (Kd.C_below HC.out HB3.out);clear hv hb hrb HBF HB2 HB HC
  by_cases hr2 : r2 = 0
  ·have hfacts : resCheckV l0 = 0 ∧ ¬ doubleV (readV l0) ∧ lacksV (readV l0) = [] ∧ r1 = rowsV (readV l0) 0 l0 := by
    have h := HEC.out;unfold bindV at h
    split at h
    ·rename_i h1
     split at h
     ·have := (Prod.mk.inj h).2
      rw [hr2] at this;cases this
     rename_i h2
     split at h
     ·rename_i h3
      exact ⟨h1,h2,h3,(Prod.mk.inj h).1.symm⟩
     have := (Prod.mk.inj h).2;rw [hr2] at this;cases this
    rename_i h1;exact absurd ((Prod.mk.inj h).2.trans hr2) h1
   obtain ⟨hck,hdb,hlk,hr1⟩ := hfacts;obtain ⟨h64,hrf⟩ := check_fits HF.out hck;have HSOME := am0 (fun (x : ByteArray) (h : (((readV l0).1 x).getD zD).is = true) => right_some HF.out hck hdb h);have HNONE := am0 (fun (i j : Nat) (hi : i < l0.length) (hj : j < (rd_T38 l0 (i : Int)).f2.f1.length) (h : (((readV l0).1 (rd_T40 (rd_T38 l0 (i : Int)).f2.f1 (j : Int)).f0).getD zD).is = false) => right_none HF.out hck hlk hi hj h);have HRF := am0 hrf;subst hr1 hr2;clear hck hdb hlk hrf HEC HF;generalize readV l0 = t at HSOME HNONE HRB hcb ⊢;have HRB2 := am0 (show Kd.C (Kd.slice 43 k43) w3 AB l0.length (rowsV t 0 l0) by have h := HRB.out;rwa [rowsV_length] at h);rw [rowsV_length] at hcb ⊢;clear HRB;have HB := am0 (Below.refl w3.heap.size w3);go_wp2
   go_loopw [6] (fun v6 wr => ∃ i : Nat,i ≤ l0.length ∧ v6 = .int .i64 (i : Int) ∧ Aside0 (Below w3.heap.size w3 wr)) (fun v6 _ => l0.length - (intOf v6).toNat)
   case atStart => exact ⟨0,by omega,rfl,HB⟩
   case round =>
    clear HB;obtain ⟨i,hi,rfl,HB⟩ := hrel
    by_cases hlt : i < l0.length
    ·have hnum : (i : Int) < (l0.length : Int) := by omega
     obtain ⟨ad,A2,c2,A3,c3,A4,c4,A5,c5,A6,c6,eA,x0,x1,x2,x3,x4,x5,x6,q⟩ := at_T38 HCB.out (i : Int) (by omega) (by omega);subst eA;obtain ⟨adb,A7,c7,eB,xb,_,gb7⟩ := at_L19 HRB2.out (i : Int) (by omega) (by omega);subst eB;rw [rows_at t hlt,rowV_length] at xb gb7;rw [show ((i : Int)).toNat = i from rfl] at x3 xb;have X3 := am0 x3;have XB := am0 xb;have GS := am0 q.2.2.2.1;have GB := am0 gb7;have HNI := am0 (fun j => HNONE.out i j hlt);have hn64 := (HRF.out _ (rd_mem z38 l0 i hlt)).1;rw [show l0.getD i z38 = rd_T38 l0 (i : Int) from rfl] at hn64;clear x0 x1 x2 x3 x4 x5 x6 q xb gb7;generalize rd_T38 l0 (i : Int) = KI at X3 XB GS GB HNI hn64;obtain ⟨k0,k1,⟨secs,syms,relas,groups⟩,sects⟩ := KI
     dsimp only at X3 XB GS GB HNI hn64;go_upto_region 14 with (fail)
     have hd2 := below_drew1 (Below.refl wr.heap.size wr);refine region_lit (S := fun W' => Below wr.heap.size wr W' ∧ W'.cell? (adb.add i) = some (.slice A7 syms.length c7) ∧ W'.cell? ⟨(ad.add (i * 7)).block,(ad.add (i * 7)).off + 3,none⟩ = some (.slice A3 syms.length c3)) (by kernel_rfl) (by kernel_rfl) (by kernel_rfl) ⟨hd2,cell_keep (below_step HB.out hd2) XB.out,cell_keep (below_step HB.out hd2) X3.out⟩ ?_;clear hd2;repeat (first | (refine gl_skip (by rfl) ?_;go_frame) | (refine gl_val (v := ?_) (by rfl) ?_ ?_;rotate_left;(intro W hW;(try dsimp only at hW);go_simp;done);go_frame) | (refine gl_val (v := ?_) (by rfl) ?_ ?_;rotate_left;(intro W hW;(try dsimp only at hW);go_simp;with_reducible rfl);go_frame))
     refine gl_nil (fun w4 hW => ?_);replace HB := am0 (below_step HB.out hW.1);clear hW;go_wp2
     go_loopw [7] (fun v7 wj => ∃ j : Nat,j ≤ syms.length ∧ v7 = .int .i64 (j : Int) ∧ Aside0 (Below w3.heap.size w3 wj)) (fun v7 _ => syms.length - (intOf v7).toNat)
     case atStart => exact ⟨0,by omega,rfl,HB⟩
     case round =>
      clear HB;obtain ⟨j,hj,rfl,HB⟩ := hrel;have xb := cell_keep HB.out XB.out;have x3 := cell_keep HB.out X3.out
      by_cases hlj : j < syms.length
      ·have hnj : (j : Int) < (syms.length : Int) := by omega
       obtain ⟨ad3,e3,y0,y1,y2,y3,y4,y5⟩ := at_T40 GS.out (j : Int) (by omega) (by omega);subst e3;obtain ⟨ad7,e7,z0,z1⟩ := at_T43 GB.out (j : Int) (by omega) (by omega);subst e7;rw [row_at t _ _ hlj] at z0 z1;rw [show ((j : Int)).toNat = j from rfl] at y0 y1 y2 y3 y4 y5 z0 z1;have Z7 := am0 (And.intro z0 z1);replace y0 := cell_keep HB.out y0;replace y1 := cell_keep HB.out y1;replace y2 := cell_keep HB.out y2;replace y3 := cell_keep HB.out y3;replace y4 := cell_keep HB.out y4;replace y5 := cell_keep HB.out y5;clear z0 z1;go_upto_region 20 with (fail)
       clear y0 y1 y2 y3 y4 y5 xb x3;generalize hw5 : World.alloc _ _ = w5;obtain ⟨hbox,hb⟩ := alloc_facts hw5;have BS := am0 hbox;replace HB := am0 (below_step HB.out hb);clear hw5 hbox hb;generalize wr.heap.size = sb at BS ⊢;have HNJ := am0 (HNI.out j hlj);generalize rd_T40 syms (j : Int) = ss at BS Z7 HNJ ⊢;obtain ⟨s0,s1,s2,s3,s4,s5⟩ := ss
       dsimp only at BS Z7 HNJ ⊢;obtain ⟨v1,_⟩ := bx (vs := [.string s0, .int .u8 s1, .bool s2, .int .i64 s3, .int .i64 s4, .int .i64 s5]) BS.out 1 rfl
       by_cases hs1 : s1 = 0
       ·have e1 : (s1 == 0) = true := by simp [hs1]
        clear hs1;go_wp2
        go_roundw
        case rel => exact ⟨j + 1,by omega,by go_num,HB⟩
        case measure => simp [intOf];omega
       have e1 : (s1 == 0) = false := by simp [hs1]
       obtain ⟨bo,bs,hbd,HFT⟩ : ∃ bo bs : Int,(∀ (k : S38) (i' j' : Int) (s : S40),s.f0 = s0 → s.f1 ≠ 0 → boundOf t k i' j' s = ⟨bo,bs⟩) ∧ Aside0 (∀ W,Below w3.heap.size w3 W → Calls Tryd.prog 11 #[.slice (some ad) l0.length c0, .agg #[.string s0, .int .u8 s1, .bool s2, .int .i64 s3, .int .i64 s4, .int .i64 s5], .agg #[.int .i64 bo, .int .i64 bs]] W fun e w' => e = .returned (.bool true) ∧ Below W.heap.size W w') := by
        cases his : ((t.1 s0).getD zD).is with
        | true =>
         obtain ⟨o,n,ho,hn,h1,h2,h3,h4,h5⟩ := HSOME.out s0 his;refine ⟨(o : Int),(n : Int),fun k i' j' s hs0 hs1 => ?_,⟨fun W hW => fits_some (some ad) c0 l0 ⟨s0,s1,s2,s3,s4,s5⟩ o n W (Kd.C_below HCB.out hW) h64 HRF.out h1 h2 h3 h4 h5⟩⟩;rw [boundOf,hs0,if_pos ⟨hs1,his⟩,ho,hn]
        | false =>
         obtain ⟨h1,h2⟩ := HNJ.out his;refine ⟨-1, -1,fun k i' j' s hs0 hs1 => ?_,⟨fun W hW => fits_none (some ad) c0 l0 ⟨s0,s1,s2,s3,s4,s5⟩ W (Kd.C_below HCB.out hW) h64 HRF.out h1 h2⟩⟩;rw [boundOf,hs0,if_neg (fun h => by rw [his] at h;cases h.2),if_neg (fun h => hs1 h.1)]
       have HBD := am0 hbd;rw [hbd _ _ _ ⟨s0,s1,s2,s3,s4,s5⟩ rfl hs1] at Z7
       dsimp only at Z7;clear hs1 HNJ hbd;go_upto_region 21 with (fail)
       clear v1;have HCL := am0 (fun (W' : World) (h : Below w5.heap.size w5 W') => (show W'.cell? (adb.add i) = some (.slice (some ad7) syms.length c7) ∧ W'.cell? (ad7.add (j * 2)) = some (.int .i64 bo) ∧ W'.cell? ⟨(ad7.add (j * 2)).block,(ad7.add (j * 2)).off + 1,none⟩ = some (.int .i64 bs) ∧ W'.cell? ⟨sb,0,none⟩ = some (.string s0) ∧ W'.cell? ⟨sb,1,none⟩ = some (.int .u8 s1) ∧ W'.cell? ⟨sb,2,none⟩ = some (.bool s2) ∧ W'.cell? ⟨sb,3,none⟩ = some (.int .i64 s3) ∧ W'.cell? ⟨sb,4,none⟩ = some (.int .i64 s4) ∧ W'.cell? ⟨sb,5,none⟩ = some (.int .i64 s5) from ⟨cell_keep (below_step HB.out h) XB.out,cell_keep (below_step HB.out h) Z7.out.1,cell_keep (below_step HB.out h) Z7.out.2,(bx (vs := [.string s0, .int .u8 s1, .bool s2, .int .i64 s3, .int .i64 s4, .int .i64 s5]) (blk_below BS.out h) 0 rfl).1,(bx (vs := [.string s0, .int .u8 s1, .bool s2, .int .i64 s3, .int .i64 s4, .int .i64 s5]) (blk_below BS.out h) 1 rfl).1,(bx (vs := [.string s0, .int .u8 s1, .bool s2, .int .i64 s3, .int .i64 s4, .int .i64 s5]) (blk_below BS.out h) 2 rfl).1,(bx (vs := [.string s0, .int .u8 s1, .bool s2, .int .i64 s3, .int .i64 s4, .int .i64 s5]) (blk_below BS.out h) 3 rfl).1,(bx (vs := [.string s0, .int .u8 s1, .bool s2, .int .i64 s3, .int .i64 s4, .int .i64 s5]) (blk_below BS.out h) 4 rfl).1,(bx (vs := [.string s0, .int .u8 s1, .bool s2, .int .i64 s3, .int .i64 s4, .int .i64 s5]) (blk_below BS.out h) 5 rfl).1⟩));have hd2 := below_drew1 (Below.refl w5.heap.size w5);refine region_lit (S := fun W' => Below w5.heap.size w5 W' ∧ W'.cell? (adb.add i) = some (.slice (some ad7) syms.length c7) ∧ W'.cell? (ad7.add (j * 2)) = some (.int .i64 bo) ∧ W'.cell? ⟨(ad7.add (j * 2)).block,(ad7.add (j * 2)).off + 1,none⟩ = some (.int .i64 bs) ∧ W'.cell? ⟨sb,0,none⟩ = some (.string s0) ∧ W'.cell? ⟨sb,1,none⟩ = some (.int .u8 s1) ∧ W'.cell? ⟨sb,2,none⟩ = some (.bool s2) ∧ W'.cell? ⟨sb,3,none⟩ = some (.int .i64 s3) ∧ W'.cell? ⟨sb,4,none⟩ = some (.int .i64 s4) ∧ W'.cell? ⟨sb,5,none⟩ = some (.int .i64 s5)) (by kernel_rfl) (by kernel_rfl) (by kernel_rfl) ⟨hd2,HCL.out _ hd2⟩ ?_;clear hd2;repeat (first | (refine gl_skip (by rfl) ?_;go_frame) | (refine gl_call (f := 11) (v := .bool true) rfl (by rfl) Tryd.func11 (by kernel_rfl) rfl (args := #[.slice (some ad) l0.length c0, .agg #[.string s0, .int .u8 s1, .bool s2, .int .i64 s3, .int .i64 s4, .int .i64 s5], .agg #[.int .i64 bo, .int .i64 bs]]) (by first | (simp only [List.map_toArray,List.map_cons,List.map_nil];done) | (simp only [List.map_toArray,List.map_cons,List.map_nil];rfl)) (fun W hW => (HFT.out W (below_step HB.out hW.1)).mono (by rintro e w' ⟨rfl,hb⟩;exact ⟨rfl,below_step hW.1 hb,HCL.out _ (below_step hW.1 hb)⟩)) ?_;go_frame) | (refine gl_val (v := ?_) (by rfl) ?_ ?_;rotate_left;(intro W hW;(try dsimp only at hW);go_simp;done);go_frame) | (refine gl_val (v := ?_) (by rfl) ?_ ?_;rotate_left;(intro W hW;(try dsimp only at hW);go_simp;with_reducible rfl);go_frame))
       refine gl_nil (fun w6 hW => ?_);replace BS := am0 (blk_below BS.out hW.1);replace HB := am0 (below_step HB.out hW.1);clear hW HCL HFT;go_wp2
       go_loopw [9] (fun v9 wn => ∃ n : Nat,n ≤ l0.length ∧ v9 = .int .i64 (n : Int) ∧ Aside0 (wn.heap[sb]? = some (.cells #[.string s0, .int .u8 s1, .bool s2, .int .i64 s3, .int .i64 s4, .int .i64 s5] 40 (0,0))) ∧ Aside0 (Below w3.heap.size w3 wn)) (fun v9 _ => l0.length - (intOf v9).toNat)
       case atStart => exact ⟨0,by omega,rfl,BS,HB⟩
       case round =>
        clear BS HB;obtain ⟨n,hn,rfl,BS,HB⟩ := hrel
        by_cases hln : n < l0.length
        ·have hnn : (n : Int) < (l0.length : Int) := by omega
         obtain ⟨adN,B2,g2,B3,g3,B4,g4,B5,g5,B6,g6,eA,x0,x1,x2,x3,x4,x5,x6,q⟩ := at_T38 HCB.out (n : Int) (by omega) (by omega);obtain rfl := Option.some.inj eA;obtain ⟨adbN,B7,g7,eB,xb,_,gb7⟩ := at_L19 HRB2.out (n : Int) (by omega) (by omega);obtain rfl := Option.some.inj eB;rw [rows_at t hln,rowV_length] at xb gb7;rw [show ((n : Int)).toNat = n from rfl] at x3 xb;have X3N := am0 x3;have XE := am0 xb;have GSN := am0 q.2.2.2.1;have GBN := am0 gb7;have hm64 := (HRF.out _ (rd_mem z38 l0 n hln)).1;rw [show l0.getD n z38 = rd_T38 l0 (n : Int) from rfl] at hm64;clear x0 x1 x2 x3 x4 x5 x6 q xb gb7;generalize rd_T38 l0 (n : Int) = KN at X3N XE GSN GBN hm64;obtain ⟨n0,n1,⟨secsN,symsN,relasN,groupsN⟩,sectsN⟩ := KN
         dsimp only at X3N XE GSN GBN hm64;go_wp2
         go_loopw [10] (fun v10 wm => ∃ m : Nat,m ≤ symsN.length ∧ v10 = .int .i64 (m : Int) ∧ Aside0 (wm.heap[sb]? = some (.cells #[.string s0, .int .u8 s1, .bool s2, .int .i64 s3, .int .i64 s4, .int .i64 s5] 40 (0,0))) ∧ Aside0 (Below w3.heap.size w3 wm)) (fun v10 _ => symsN.length - (intOf v10).toNat)
         case atStart => exact ⟨0,by omega,rfl,BS,HB⟩
         case round =>
          clear BS HB;obtain ⟨m,hm,rfl,BS,HB⟩ := hrel;have xe := cell_keep HB.out XE.out;have x3 := cell_keep HB.out X3N.out
          by_cases hlm : m < symsN.length
          ·have hnm : (m : Int) < (symsN.length : Int) := by omega
           obtain ⟨ae3,e3,y0,y1,y2,y3,y4,y5⟩ := at_T40 GSN.out (m : Int) (by omega) (by omega);subst e3;obtain ⟨ae7,e7,z0,z1⟩ := at_T43 GBN.out (m : Int) (by omega) (by omega);subst e7;rw [row_at t _ _ hlm] at z0 z1;rw [show ((m : Int)).toNat = m from rfl] at y0 y1 y2 y3 y4 y5 z0 z1;have Y7 := am0 (And.intro z0 z1);replace y0 := cell_keep HB.out y0;replace y1 := cell_keep HB.out y1;replace y2 := cell_keep HB.out y2;replace y3 := cell_keep HB.out y3;replace y4 := cell_keep HB.out y4;replace y5 := cell_keep HB.out y5;clear z0 z1;go_upto_region 30 with (fail)
           clear y0 y1 y2 y3 y4 y5 xe x3;generalize hw7 : World.alloc _ _ = w7;obtain ⟨hbox,hb⟩ := alloc_facts hw7;have TB := am0 hbox;replace BS := am0 (blk_below BS.out hb);replace HB := am0 (below_step HB.out hb);clear hw7 hbox hb;generalize wr.heap.size = tb at TB ⊢;have HB1 := am0 (HBD.out ⟨n0,n1,⟨secsN,symsN,relasN,groupsN⟩,sectsN⟩ (n : Int) (m : Int) (rd_T40 symsN (m : Int)));generalize boundOf t ⟨n0,n1,⟨secsN,symsN,relasN,groupsN⟩,sectsN⟩ (n : Int) (m : Int) (rd_T40 symsN (m : Int)) = b2 at Y7 HB1;generalize rd_T40 symsN (m : Int) = tt at TB HB1 ⊢;obtain ⟨t0,t1,t2,t3,t4,t5⟩ := tt;obtain ⟨bo2,bs2⟩ := b2
           dsimp only at TB Y7 HB1 ⊢;have HCL := am0 (fun (W' : World) (h : Below w7.heap.size w7 W') => (show W'.cell? (adb.add i) = some (.slice (some ad7) syms.length c7) ∧ W'.cell? (ad7.add (j * 2)) = some (.int .i64 bo) ∧ W'.cell? ⟨(ad7.add (j * 2)).block,(ad7.add (j * 2)).off + 1,none⟩ = some (.int .i64 bs) ∧ W'.cell? (adb.add n) = some (.slice (some ae7) symsN.length g7) ∧ W'.cell? (ae7.add (m * 2)) = some (.int .i64 bo2) ∧ W'.cell? ⟨(ae7.add (m * 2)).block,(ae7.add (m * 2)).off + 1,none⟩ = some (.int .i64 bs2) ∧ W'.cell? ⟨sb,0,none⟩ = some (.string s0) ∧ W'.cell? ⟨tb,0,none⟩ = some (.string t0) ∧ W'.cell? ⟨tb,1,none⟩ = some (.int .u8 t1) from ⟨cell_keep (below_step HB.out h) XB.out,cell_keep (below_step HB.out h) Z7.out.1,cell_keep (below_step HB.out h) Z7.out.2,cell_keep (below_step HB.out h) XE.out,cell_keep (below_step HB.out h) Y7.out.1,cell_keep (below_step HB.out h) Y7.out.2,(bx (vs := [.string s0, .int .u8 s1, .bool s2, .int .i64 s3, .int .i64 s4, .int .i64 s5]) (blk_below BS.out h) 0 rfl).1,(bx (vs := [.string t0, .int .u8 t1, .bool t2, .int .i64 t3, .int .i64 t4, .int .i64 t5]) (blk_below TB.out h) 0 rfl).1,(bx (vs := [.string t0, .int .u8 t1, .bool t2, .int .i64 t3, .int .i64 t4, .int .i64 t5]) (blk_below TB.out h) 1 rfl).1⟩));have hd2 := below_drew1 (Below.refl w7.heap.size w7);refine region_lit (S := fun W' => Below w7.heap.size w7 W' ∧ W'.cell? (adb.add i) = some (.slice (some ad7) syms.length c7) ∧ W'.cell? (ad7.add (j * 2)) = some (.int .i64 bo) ∧ W'.cell? ⟨(ad7.add (j * 2)).block,(ad7.add (j * 2)).off + 1,none⟩ = some (.int .i64 bs) ∧ W'.cell? (adb.add n) = some (.slice (some ae7) symsN.length g7) ∧ W'.cell? (ae7.add (m * 2)) = some (.int .i64 bo2) ∧ W'.cell? ⟨(ae7.add (m * 2)).block,(ae7.add (m * 2)).off + 1,none⟩ = some (.int .i64 bs2) ∧ W'.cell? ⟨sb,0,none⟩ = some (.string s0) ∧ W'.cell? ⟨tb,0,none⟩ = some (.string t0) ∧ W'.cell? ⟨tb,1,none⟩ = some (.int .u8 t1)) (by kernel_rfl) (by kernel_rfl) (by kernel_rfl) ⟨hd2,HCL.out _ hd2⟩ ?_;clear hd2
           by_cases ht1 : t1 = 0
           ·have a1 : (t1 != 0) = false := by simp [ht1]
            clear ht1;repeat (first | (refine gl_skip (by rfl) ?_;go_frame) | (refine gl_val (v := ?_) (by rfl) ?_ ?_;rotate_left;(intro W hW;(try dsimp only at hW);go_simp;done);go_frame) | (refine gl_val (v := ?_) (by rfl) ?_ ?_;rotate_left;(intro W hW;(try dsimp only at hW);go_simp;with_reducible rfl);go_frame))
            refine gl_nil (fun w8 hW => ?_);replace BS := am0 (blk_below BS.out hW.1);replace HB := am0 (below_step HB.out hW.1);clear hW HCL;go_wp2
            go_roundw
            case rel => exact ⟨m + 1,by omega,by go_num,BS,HB⟩
            case measure => simp [intOf];omega
           have a1 : (t1 != 0) = true := by simp [ht1]
           by_cases hname : t0 = s0
           ·have a2 : (t0.toList == s0.toList) = true := by rw [hname];simp
            have hbb := HB1.out hname ht1
            injection hbb with hb1 hb2
            subst hb1 hb2;clear ht1 hname;repeat (first | (refine gl_skip (by rfl) ?_;go_frame) | (refine gl_val (v := ?_) (by rfl) ?_ ?_;rotate_left;(intro W hW;(try dsimp only at hW);go_simp;done);go_frame) | (refine gl_val (v := ?_) (by rfl) ?_ ?_;rotate_left;(intro W hW;(try dsimp only at hW);go_simp;with_reducible rfl);go_frame))
            refine gl_nil (fun w8 hW => ?_);replace BS := am0 (blk_below BS.out hW.1);replace HB := am0 (below_step HB.out hW.1);clear hW HCL;go_wp2
            go_roundw
            case rel => exact ⟨m + 1,by omega,by go_num,BS,HB⟩
            case measure => simp [intOf];omega
           have a2 : (t0.toList == s0.toList) = false := by
            rw [beq_eq_false_iff_ne];intro h;rw [ba_toList,ba_toList] at h;exact hname (Go.WideShapes.bytes_inj h)
           clear ht1 hname;repeat (first | (refine gl_skip (by rfl) ?_;go_frame) | (refine gl_val (v := ?_) (by rfl) ?_ ?_;rotate_left;(intro W hW;(try dsimp only at hW);go_simp;done);go_frame) | (refine gl_val (v := ?_) (by rfl) ?_ ?_;rotate_left;(intro W hW;(try dsimp only at hW);go_simp;with_reducible rfl);go_frame))
           refine gl_nil (fun w8 hW => ?_);replace BS := am0 (blk_below BS.out hW.1);replace HB := am0 (below_step HB.out hW.1);clear hW HCL;go_wp2
           go_roundw
           case rel => exact ⟨m + 1,by omega,by go_num,BS,HB⟩
           case measure => simp [intOf];omega
          have he : m = symsN.length := by omega
          subst he;have hnm : ¬ ((symsN.length : Int) < (symsN.length : Int)) := by omega
          go_wp2
          go_roundw
          case rel => exact ⟨n + 1,by omega,by go_num,BS,HB⟩
          case measure => simp [intOf];omega
        have he : n = l0.length := by omega
        subst he;have hnn : ¬ ((l0.length : Int) < (l0.length : Int)) := by omega
        go_wp2
        go_roundw
        case rel => exact ⟨j + 1,by omega,by go_num,HB⟩
        case measure => simp [intOf];omega
      have he : j = syms.length := by omega
      subst he;have hnj : ¬ ((syms.length : Int) < (syms.length : Int)) := by omega
      go_wp2
      go_roundw
      case rel => exact ⟨i + 1,by omega,by go_num,HB⟩
      case measure => simp [intOf];omega
    have he : i = l0.length := by omega
    subst he;have hnum : ¬ ((l0.length : Int) < (l0.length : Int)) := by omega
    go_wp2
    go_ret
    exact ⟨rfl,below_step HB3.out HB.out⟩
  have HR1 := am0 (show r1 = [] from by
   have h := HEC.out;unfold bindV at h
   split at h
   ·split at h
    ·exact (Prod.mk.inj h).1.symm
    split at h
    ·exact absurd (Prod.mk.inj h).2.symm hr2
    exact (Prod.mk.inj h).1.symm
   exact (Prod.mk.inj h).1.symm)
  have e1 : (r2 != 0) = true := by simp [hr2]
  rw [HR1.out];have hz : (([] : List (List S43)).length : Int) = 0 := rfl;clear hr2 HEC HRB hcb;go_wp2
  all_goals go_ret
  all_goals exact ⟨rfl,HB3.out⟩
end Go.Proofs.YtalomolellcefaaDoor.Q
namespace Go.Proofs.YtalomolellcefaaDoor.OpenM
open Go.Proofs.YtalomolellcefaaDoorW.PrintWords Go.ChangeShapes Go.WideShapes
def Opens (P : Program) {α : Type} (d : Kd α) (t : TypeId) (G : α → Prop) (M : α → Nat) : Prop :=
 ∀ {H : Type} (enc : TypeId × Value → H) (w : World) (base : Nat) (sp : Nat → Bool) (held : Bool) (fuel : Nat) (cs : List Value) (x : DataW H × List MemPlace),
  DataW.trod enc P w base sp held fuel t cs = some x → (∀ n ∈ x.1.weights P t,n ≤ reachBytes) → ∃ y,d.K w y cs ∧ G y ∧ M y ≤ Rows.uptoBulk x.1
theorem one_le {H : Type} (d : DataW H) : 1 ≤ Rows.uptoBulk d := by
 cases d with
 | lit l => cases l <;> simp [Rows.uptoBulk]
 | nil => simp [Rows.uptoBulk]
 | ptr d => simp [Rows.uptoBulk]
 | slice elems spare => simp [Rows.uptoBulk]
 | agg parts => simp [Rows.uptoBulk]
 | iface t d => simp [Rows.uptoBulk]
 | map entries => simp [Rows.uptoBulk]
 | held h => simp [Rows.uptoBulk]
theorem sum_le {H : Type} : ∀ (ds : List (DataW H)) (g : Nat → Nat),(∀ i d,ds[i]? = some d → g i ≤ Rows.uptoBulk d) → ((List.range ds.length).map g).sum ≤ Rows.uptoBulkAll ds
 | [],_,_ => by simp
 | d :: ds,g,h => by
  rw [List.length_cons,List.range_succ_eq_map,List.map_cons,List.sum_cons,List.map_map,Rows.uptoBulkAll];have h0 := h 0 d rfl;have h1 := sum_le ds (g ∘ Nat.succ) (fun i d' hi => h (i + 1) d' (by simpa using hi));omega
def listM {α : Type} (M : α → Nat) (xs : List α) : Nat := (xs.map fun y => max 1 (M y)).sum
theorem listM_len {α : Type} (M : α → Nat) : ∀ xs : List α,xs.length ≤ listM M xs
 | [] => by simp [listM]
 | x :: xs => by
  have := listM_len M xs;simp only [listM,List.map_cons,List.sum_cons,List.length_cons] at *;omega
theorem listM_mem {α : Type} (M : α → Nat) : ∀ {xs : List α} {x : α},x ∈ xs → M x ≤ listM M xs
 | y :: xs,x,h => by
  simp only [listM,List.map_cons,List.sum_cons];rcases List.mem_cons.1 h with rfl | h
  ·omega
  have := listM_mem M h;simp only [listM] at this;omega
section
variable {P : Program} {t : TypeId}
theorem opens_int {k : IntKind} (ht : P.underlying t = some (.int k)) : Opens P (Kd.int k) t (fun n => (Lit.int k n).wf = true) (fun _ => 0) := by
 intro H enc w base sp held fuel cs x h _;obtain ⟨n,rfl,_,hw⟩ := DataW.trod_int ht h;exact ⟨n,rfl,hw,Nat.zero_le _⟩
theorem opens_bool (ht : P.underlying t = some .bool) : Opens P Kd.bool t (fun _ => True) (fun _ => 0) := by
 intro H enc w base sp held fuel cs x h _;obtain ⟨b,rfl,_⟩ := DataW.trod_bool ht h;exact ⟨b,rfl,trivial,Nat.zero_le _⟩
theorem opens_string (ht : P.underlying t = some .string) : Opens P Kd.string t (fun s => s.size ≤ 140737488351232) (fun s => s.size) := by
 intro H enc w base sp held fuel cs x h hw;obtain ⟨s,rfl,rfl,_⟩ := DataW.trod_string ht h;refine ⟨s,rfl, ?_, ?_⟩
 ·have := hw s.data.toList.length (by simp [DataW.weights])
  rw [data_length] at this;exact this
 simp only [Rows.uptoBulk];have : s.data.toList.length = s.size := data_length s;omega
theorem weightsAll_mem {H : Type} {e : TypeId} : ∀ {l : List (DataW H)} {d : DataW H},d ∈ l → ∀ n ∈ d.weights P e,n ∈ DataW.weightsAll P e l
 | d0 :: l,d,hd,n,hn => by
  simp only [DataW.weightsAll,List.mem_append];rcases List.mem_cons.1 hd with rfl | hd
  ·exact Or.inl hn
  exact Or.inr (weightsAll_mem hd n hn)
 | [],_,hd,_,_ => by simp at hd
theorem opens_slice {α : Type} {d : Kd α} {e : TypeId} {G : α → Prop} {M : α → Nat} (z : α) (B : Nat) (ht : P.underlying t = some (.slice e)) (hsz : P.cellsOf e = d.sz) (hB : P.bytesOf e = B) (ho : Opens P d e G M) :
  Opens P (Kd.slice e d) t (fun xs => xs.length * B ≤ 140737488351232 ∧ ∀ x ∈ xs,G x) (listM M) := by
 intro H enc w base sp held fuel cs x h hw;rcases DataW.trod_slice ht h with ⟨rfl,rfl⟩ | ⟨a,len,cap,elems,rest,n,rfl,rfl,rfl,hb,hl,hm,hlen,hel,_,_⟩
 ·exact ⟨[],⟨none,0,rfl,by simp,rfl,by simp,fun h0 => absurd h0 (by simp)⟩,⟨by simp,by simp⟩,by simp [listM]⟩
 have hwt : ∀ i,i < len → ∀ y,elems[i]? = some y → ∀ m ∈ y.1.weights P e,m ≤ reachBytes := by
  intro i hi y hy m hmm;refine hw m ?_;simp only [DataW.weights,ht,List.mem_cons,List.mem_append];refine Or.inr (Or.inl (weightsAll_mem (List.mem_map_of_mem (List.mem_of_getElem? hy)) m hmm))
 have hsize : (elems.length + rest.length) * B ≤ reachBytes := by
  have := hw ((elems.length + rest.length) * P.bytesOf e) (by simp [DataW.weights,ht]);rwa [hB] at this
 have hone : ∀ i,i < len → ∃ y : α, ∃ c,c.length = d.sz ∧ d.K w y c ∧ (G y ∧ ∀ q,elems[i]? = some q → M y ≤ Rows.uptoBulk q.1) ∧ ∀ j u,c[j]? = some u → w.cell? (a.add (i * d.sz + j)) = some u := by
  intro i hi;have h1 := hel i hi;rw [List.getElem?_eq_getElem (by omega)] at h1;obtain ⟨c,hc,ht2⟩ := Option.bind_eq_some_iff.1 h1;obtain ⟨y,hy,hG,hM⟩ := ho enc w base sp held n c _ ht2 (hwt i hi _ (List.getElem?_eq_getElem (by omega)));obtain ⟨_,hcl,hcell⟩ := World.cells?_some hc;rw [hsz] at hcl hcell;refine ⟨y,c,hcl,hy,⟨hG,fun q hq => by rw [List.getElem?_eq_getElem (by omega)] at hq;rw [← Option.some.inj hq];exact hM⟩,fun j u hu => ?_⟩;have hj : j < d.sz := by rw [← hcl];exact (List.getElem?_eq_some_iff.1 hu).1
  have := hcell j hj;rw [Go.Deep.add_add] at this;rw [this];exact hu
 haveI : Inhabited α := ⟨z⟩
 obtain ⟨f,hf⟩ := Go.Deep.choose_lt hone;have hfl : ((List.range len).map f).length = len := by simp
 refine ⟨(List.range len).map f,⟨some a,cap,by rw [hfl],by rw [hfl];exact hl,rfl,by rw [hfl];simp only [maxLen] at hm;omega,fun _ => ⟨a,rfl,fun j p hp => ?_⟩⟩,⟨?_, ?_⟩, ?_⟩
 ·rw [List.getElem?_map] at hp
  obtain ⟨i,hi,rfl⟩ := Option.map_eq_some_iff.1 hp;obtain ⟨hi1,hi2⟩ := List.getElem?_eq_some_iff.1 hi;have hjl : j < len := by simpa using hi1
  have hij : i = j := by simpa using hi2.symm
  subst hij;obtain ⟨c,h1,h2,_,h3⟩ := hf i hjl;exact ⟨c,h1,h2,h3⟩
 ·rw [hfl, ← hlen]
  exact Nat.le_trans (Nat.mul_le_mul_right _ (Nat.le_add_right _ _)) hsize
 ·intro x hx
  obtain ⟨i,hi,rfl⟩ := List.mem_map.1 hx;obtain ⟨c,_,_,h3,_⟩ := hf i (List.mem_range.1 hi);exact h3.1
 unfold listM;rw [List.map_map]
 have h1 := sum_le (elems.map (·.1)) ((fun y => max 1 (M y)) ∘ f) (fun i q hq => by
  rw [List.getElem?_map] at hq;obtain ⟨q0,hq0,rfl⟩ := Option.map_eq_some_iff.1 hq;have hil : i < len := by have := (List.getElem?_eq_some_iff.1 hq0).1;omega
  obtain ⟨c,_,_,h3,_⟩ := hf i hil;have h4 := h3.2 q0 hq0;have h5 := one_le q0.1;simp only [Function.comp];omega)
 rw [List.length_map,hlen] at h1;simp only [Rows.uptoBulk];omega
def OpensAt (P : Program) (o : Nat) (ts : List (TypeId × Nat)) {α : Type} (d : Kd α) (G : α → Prop) (M : α → Nat) : Prop :=
 ∀ {H : Type} (enc : TypeId × Value → H) (w : World) (base : Nat) (sp : Nat → Bool) (held : Bool) (fuel : Nat) (cs : List Value) (xs : List (DataW H × List MemPlace)),
  xs.length = ts.length → (∀ (i : Nat) (q : TypeId × Nat),ts[i]? = some q → DataW.trod enc P w base sp held fuel q.1 ((cs.drop q.2).take (P.cellsOf q.1)) = xs[i]?) →
  (∀ n ∈ DataW.weightsEach P (ts.map (·.1)) (xs.map (·.1)),n ≤ reachBytes) → ∃ y,d.K w y ((cs.drop o).take d.sz) ∧ G y ∧ M y ≤ Rows.uptoBulkAll (xs.map (·.1))
theorem opensAt_one {α : Type} {d : Kd α} {G : α → Prop} {M : α → Nat} {o : Nat} (hsz : P.cellsOf t = d.sz) (ho : Opens P d t G M) : OpensAt P o [(t,o)] d G M := by
 intro H enc w base sp held fuel cs xs hl hx hw
 match xs,hl with
 | [x],_ =>
  have h := hx 0 (t,o) rfl;rw [hsz] at h;obtain ⟨y,hy,hG,hM⟩ := ho enc w base sp held fuel _ x h (fun n hn => hw n (by simp [DataW.weightsEach];exact hn));exact ⟨y,hy,hG,by simp only [List.map_cons,List.map_nil,Rows.uptoBulkAll];omega⟩
theorem opensAt_cons {α β : Type} {a : Kd α} {b : Kd β} {G : α → Prop} {G' : β → Prop} {M : α → Nat} {M' : β → Nat} {o : Nat} {ts : List (TypeId × Nat)} (hsz : P.cellsOf t = a.sz) (ho : Opens P a t G M) (hs : OpensAt P (o + a.sz) ts b G' M') :
  OpensAt P o ((t,o) :: ts) (Kd.pair a b) (fun y => G y.1 ∧ G' y.2) (fun y => M y.1 + M' y.2) := by
 intro H enc w base sp held fuel cs xs hl hx hw
 match xs,hl with
 | x :: xs,hl =>
  have h := hx 0 (t,o) rfl;rw [hsz] at h;obtain ⟨y,hy,hG,hM⟩ := ho enc w base sp held fuel _ x h (fun n hn => hw n (by simp only [List.map_cons,DataW.weightsEach,List.mem_append];exact Or.inl hn))
  obtain ⟨y',hy',hG',hM'⟩ := hs enc w base sp held fuel cs xs (by simpa using hl) (fun i q hq => by have := hx (i + 1) q (by simpa using hq);simpa using this)
   (fun n hn => hw n (by simp only [List.map_cons,DataW.weightsEach,List.mem_append];exact Or.inr hn))
  refine ⟨(y,y'),⟨_,_, ?_,hy,hy'⟩,⟨hG,hG'⟩,by simp only [List.map_cons,Rows.uptoBulkAll];omega⟩;rw [show (Kd.pair a b).sz = a.sz + b.sz from rfl,List.take_add,List.drop_drop]
theorem opens_struct {α : Type} {d : Kd α} {G : α → Prop} {M : α → Nat} {fs : Array Field} {ts : List (TypeId × Nat)} (ht : P.underlying t = some (.struct fs)) (hts : fs.toList.map (fun f => (f.type,f.offset)) = ts) (hsz : P.cellsOf t = d.sz)
  (hs : OpensAt P 0 ts d G M) : Opens P d t G M := by
 intro H enc w base sp held fuel cs x h hw;obtain ⟨xs,n,rfl,rfl,hcl,hxl,hx⟩ := DataW.trod_struct ht h;have hfl : fs.toList.length = fs.size := Array.length_toList
 obtain ⟨y,hy,hG,hM⟩ := hs enc w base sp held n cs xs (by rw [hxl, ← hts,List.length_map,hfl]) (fun i q hq => by
   rw [← hts,List.getElem?_map] at hq;obtain ⟨f,hf,rfl⟩ := Option.map_eq_some_iff.1 hq;exact hx i f (by simpa using hf))
  (fun m hm => hw m (by
   simp only [DataW.weights,ht];rw [← hts,List.map_map] at hm;exact hm))
 refine ⟨y, ?_,hG,by simp only [Rows.uptoBulk];omega⟩;rw [List.drop_zero,List.take_of_length_le (by rw [hcl,hsz];exact Nat.le_refl _)] at hy;exact hy
theorem opens_iso {α β : Type} {d : Kd α} {G : α → Prop} {M : α → Nat} (f : β → α) (g : α → β) (hg : ∀ x,f (g x) = x) (ho : Opens P d t G M) : Opens P (Kd.iso d f) t (fun y => G (f y)) (fun y => M (f y)) := by
 intro H enc w base sp held fuel cs x h hw;obtain ⟨y,hy,hG,hM⟩ := ho enc w base sp held fuel cs x h hw;exact ⟨g y,by show d.K w (f (g y)) cs;rw [hg];exact hy,by show G (f (g y));rw [hg];exact hG,by show M (f (g y)) ≤ _;rw [hg];exact hM⟩
end
theorem open_arg_slice {P : Program} {t e : TypeId} {α : Type} {d : Kd α} {G : List α → Prop} {M : List α → Nat} (ho : Opens P (Kd.slice e d) t G M) {H : Type} {enc : TypeId × Value → H} {w : World} {base : Nat} {sp : Nat → Bool} {held : Bool} {a : Option Addr} {len cap : Nat} {x : DataW H} {ps : List MemPlace}
  (h : DataW.Trod enc P w base sp held t (.slice a len cap) x ps) (hw : ∀ n ∈ x.weights P t,n ≤ reachBytes) :
  ∃ xs : List α,len = xs.length ∧ xs.length ≤ cap ∧ d.C w a xs.length xs ∧ G xs ∧ M xs ≤ Rows.uptoBulk x := by
 obtain ⟨fuel,hf⟩ := h;obtain ⟨xs,⟨A,c,hcs,hl,hr⟩,hG,hM⟩ := ho enc w base sp held fuel _ _ hf hw;simp [Value.cells] at hcs;obtain ⟨rfl,rfl,rfl⟩ := hcs;exact ⟨xs,rfl,hl,hr,hG,hM⟩
theorem weights_le {P : Program} {H : Type} {ts : List TypeId} {ds : List (DataW H)} (h : (DataW.weightsEach P ts ds).all (· ≤ reachBytes) = true) {j : Nat} {t : TypeId} {d : DataW H} (ht : ts[j]? = some t) (hd : ds[j]? = some d) : ∀ n ∈ d.weights P t,n ≤ reachBytes := by
 intro n hn;have := List.all_eq_true.1 h _ (DataW.weights_mem_each ht hd n hn);simpa using this
end Go.Proofs.YtalomolellcefaaDoor.OpenM
namespace Go.Proofs.YtalomolellcefaaDoor.Q
open Go.RowKit Go.Proofs.YtalomolellcefaaDoorW.PrintWords Go.Proofs.YtalomolellcefaaDoor.OpenM
theorem opens_imp {P : Program} {α : Type} {d : Kd α} {t : TypeId} {G G' : α → Prop} {M M' : α → Nat} (h : Opens P d t G M) (hG : ∀ y,G y → G' y) (hM : ∀ y,M' y ≤ M y) : Opens P d t G' M' := by
 intro H enc w base sp held fuel cs x hx hw;obtain ⟨y,h1,h2,h3⟩ := h enc w base sp held fuel cs x hx hw;exact ⟨y,h1,hG y h2,Nat.le_trans (hM y) h3⟩
theorem open_section : Opens Tryd.prog k72 72 (fun x => x.f2.length ≤ 140737488351232) (fun _ => 0) :=
 opens_imp (opens_iso (fun x : S72 => (x.f0,x.f1,x.f2,x.f3)) (fun p => ⟨p.1,p.2.1,p.2.2.1,p.2.2.2⟩) (fun _ => rfl)
  (opens_struct Tryd.underlying72 rfl (by kernel_rfl)
   (opensAt_cons (by kernel_rfl) (opens_string Tryd.underlying9) (opensAt_cons (by kernel_rfl) (opens_int Tryd.underlying3) (opensAt_cons (by kernel_rfl) (opens_slice (0 : Int) 1 Tryd.underlying70 (by kernel_rfl) (by kernel_rfl) (opens_int Tryd.underlying5)) (opensAt_one (by kernel_rfl) (opens_int Tryd.underlying3)))))))
  (fun y h => by have := h.2.2.1.1;simpa using this) (fun _ => Nat.zero_le _)
theorem open_symbol : Opens Tryd.prog k40 40 (fun _ => True) (fun _ => 0) :=
 opens_imp (opens_iso (fun x : S40 => (x.f0,x.f1,x.f2,x.f3,x.f4,x.f5)) (fun p => ⟨p.1,p.2.1,p.2.2.1,p.2.2.2.1,p.2.2.2.2.1,p.2.2.2.2.2⟩) (fun _ => rfl)
  (opens_struct Tryd.underlying40 rfl (by kernel_rfl)
   (opensAt_cons (by kernel_rfl) (opens_string Tryd.underlying9) (opensAt_cons (by kernel_rfl) (opens_int Tryd.underlying5) (opensAt_cons (by kernel_rfl) (opens_bool Tryd.underlying4) (opensAt_cons (by kernel_rfl) (opens_int Tryd.underlying3) (opensAt_cons (by kernel_rfl) (opens_int Tryd.underlying3) (opensAt_one (by kernel_rfl) (opens_int Tryd.underlying3)))))))))
  (fun _ _ => trivial) (fun _ => Nat.zero_le _)
theorem open_rela : Opens Tryd.prog k94 94 (fun x => 0 ≤ x.f2) (fun _ => 0) :=
 opens_imp (opens_iso (fun x : S94 => (x.f0,x.f1,x.f2,x.f3,x.f4)) (fun p => ⟨p.1,p.2.1,p.2.2.1,p.2.2.2.1,p.2.2.2.2⟩) (fun _ => rfl)
  (opens_struct Tryd.underlying94 rfl (by kernel_rfl)
   (opensAt_cons (by kernel_rfl) (opens_int Tryd.underlying3) (opensAt_cons (by kernel_rfl) (opens_int Tryd.underlying3) (opensAt_cons (by kernel_rfl) (opens_int Tryd.underlying5) (opensAt_cons (by kernel_rfl) (opens_int Tryd.underlying3) (opensAt_one (by kernel_rfl) (opens_int Tryd.underlying3))))))))
  (fun y h => by
   have := h.2.2.1;simp [Lit.wf,IntKind.min,IntKind.max,IntKind.signed,IntKind.bits] at this;omega) (fun _ => Nat.zero_le _)
theorem open_group : Opens Tryd.prog k68 68 (fun x => ∀ n ∈ x.f1,(Lit.int .i64 n).wf = true) (fun x => x.f0.size + x.f1.length) :=
 opens_imp (opens_iso (fun x : S68 => (x.f0,x.f1)) (fun p => ⟨p.1,p.2⟩) (fun _ => rfl)
  (opens_struct Tryd.underlying68 rfl (by kernel_rfl)
   (opensAt_cons (by kernel_rfl) (opens_string Tryd.underlying9) (opensAt_one (by kernel_rfl) (opens_slice (0 : Int) 8 Tryd.underlying66 (by kernel_rfl) (by kernel_rfl) (opens_int Tryd.underlying3))))))
  (fun y h => h.2.2) (fun y => Nat.add_le_add_left (listM_len _ _) _)
def objM (x : S35) : Nat := listM (fun _ => 0) x.f0 + listM (fun _ => 0) x.f1 + listM (fun _ => 0) x.f2 + listM (fun g : S68 => g.f0.size + g.f1.length) x.f3
def ObjG (x : S35) : Prop := (∀ s ∈ x.f0,s.f2.length ≤ 140737488351232) ∧ (∀ r ∈ x.f2,0 ≤ r.f2) ∧ ∀ g ∈ x.f3, ∀ n ∈ g.f1,(Lit.int .i64 n).wf = true
theorem open_object : Opens Tryd.prog k35 35 ObjG objM :=
 opens_imp (opens_iso (fun x : S35 => (x.f0,x.f1,x.f2,x.f3)) (fun p => ⟨p.1,p.2.1,p.2.2.1,p.2.2.2⟩) (fun _ => rfl)
  (opens_struct Tryd.underlying35 rfl (by kernel_rfl)
   (opensAt_cons (by kernel_rfl) (opens_slice z72 56 Tryd.underlying30 (by kernel_rfl) (by kernel_rfl) open_section) (opensAt_cons (by kernel_rfl) (opens_slice z40 48 Tryd.underlying31 (by kernel_rfl) (by kernel_rfl) open_symbol)
    (opensAt_cons (by kernel_rfl) (opens_slice z94 40 Tryd.underlying32 (by kernel_rfl) (by kernel_rfl) open_rela) (opensAt_one (by kernel_rfl) (opens_slice z68 40 Tryd.underlying33 (by kernel_rfl) (by kernel_rfl) open_group)))))))
  (fun y h => ⟨h.1.2,h.2.2.1.2,h.2.2.2.2⟩) (fun y => by show objM y ≤ listM _ y.f0 + (listM _ y.f1 + (listM _ y.f2 + listM _ y.f3));unfold objM;omega)
theorem open_kept : Opens Tryd.prog k38 38 (fun k => ObjG k.f2) (fun k => objM k.f2) :=
 opens_imp (opens_iso (fun x : S38 => (x.f0,x.f1,x.f2,x.f3)) (fun p => ⟨p.1,p.2.1,p.2.2.1,p.2.2.2⟩) (fun _ => rfl)
  (opens_struct Tryd.underlying38 rfl (by kernel_rfl)
   (opensAt_cons (by kernel_rfl) (opens_int Tryd.underlying3) (opensAt_cons (by kernel_rfl) (opens_int Tryd.underlying3) (opensAt_cons (by kernel_rfl) open_object (opensAt_one (by kernel_rfl) (opens_slice false 1 Tryd.underlying36 (by kernel_rfl) (by kernel_rfl) (opens_bool Tryd.underlying4))))))))
  (fun y h => h.2.2.1) (fun y => by simp only;omega)
theorem open_kepts : Opens Tryd.prog (Kd.slice 38 k38) 22 (fun l => ∀ k ∈ l,ObjG k.f2) (listM fun k => objM k.f2) :=
 opens_imp (opens_slice z38 136 Tryd.underlying22 (by kernel_rfl) (by kernel_rfl) open_kept) (fun _ h => h.2) (fun _ => Nat.le_refl _)
theorem groupsLen_le : ∀ gs : List S68,groupsLen gs ≤ listM (fun g : S68 => g.f0.size + g.f1.length) gs
 | [] => by simp [groupsLen,listM]
 | g :: gs => by
  have := groupsLen_le gs;simp only [groupsLen,listM,List.map_cons,List.sum_cons] at *;omega
theorem objFit_of {x : S35} (hG : ObjG x) (hM : objM x ≤ 1048576) : ObjFit x.f0 x.f1 x.f2 x.f3 := by
 obtain ⟨h1,h2,h3⟩ := hG;unfold objM at hM;have a0 := listM_len (fun _ => 0) x.f0;have a1 := listM_len (fun _ => 0) x.f1;have a3 := listM_len (fun g : S68 => g.f0.size + g.f1.length) x.f3;have a4 := groupsLen_le x.f3;refine ⟨by omega,h1,by omega,h2, ?_⟩;unfold groupsFit;simp only [Bool.and_eq_true,decide_eq_true_eq,List.all_eq_true];refine ⟨⟨by omega,by omega⟩,fun g hg => ⟨?_,h3 g hg⟩⟩;have := listM_mem (fun g : S68 => g.f0.size + g.f1.length) hg;omega
theorem keptFit_of {l : List S38} (hG : ∀ k ∈ l,ObjG k.f2) (hM : listM (fun k => objM k.f2) l ≤ 1048576) : ∀ k ∈ l,KeptFit k := fun k hk =>
 objFit_of (hG k hk) (Nat.le_trans (listM_mem (fun k : S38 => objM k.f2) hk) hM)
end Go.Proofs.YtalomolellcefaaDoor.Q
namespace Go.Proofs.YtalomolellcefaaDoor.rowRight
open Go.ChangeShapes Go.WideShapes Go.ChangeAt Go.RowKit Go.Proofs.YtalomolellcefaaDoor.Q Go.Proofs.YtalomolellcefaaDoor.OpenM
theorem own : ownKnob Tryd.prog.godebug = none := by kernel_rfl
theorem laidOut : laidOutB Tryd.prog = true := by kernel_rfl
theorem gNothing : Tryd.prog.globalNamed "quoin/resolve.nothing" = some 0 := by kernel_rfl
theorem gNothingType : (Tryd.prog.globals[0]?).map (·.type) = some 43 := by kernel_rfl
theorem glob {W : World} (h : laidMetH Tryd.prog Rows.resolveRightRow.laid W) : GlobOK W := by
 obtain ⟨ps,⟨g',t',cs,fuel,p,q,hg',ht',hvar,hd,_,_⟩,_⟩ := (show laidMet Tryd.prog Rows.resolveRightRow.laid W from h);obtain rfl := Option.some.inj (gNothing.symm.trans hg');obtain rfl := Option.some.inj (gNothingType.symm.trans ht');obtain ⟨y0,y1,n,hx,hl,h0,h1⟩ := trod_struct2 Tryd.underlying43 hd;have c0 := World.var?_cell gNothing hvar 0;have c1 := World.var?_cell gNothing hvar 1;obtain ⟨a0,e0,f0,_⟩ := DataW.trod_int Tryd.underlying3 h0;obtain ⟨a1,e1,f1,_⟩ := DataW.trod_int Tryd.underlying3 h1;subst f0 f1;have hfst := congrArg Prod.fst hx;simp [Rows.laid_quoin_resolve_nothing] at hfst;obtain ⟨rfl,rfl⟩ := hfst;have hce : Tryd.prog.cellsOf 3 = 1 := by kernel_rfl
 have k0 := congrArg (·[0]?) e0;have k1 := congrArg (·[0]?) e1;simp [hce,List.getElem?_take,List.getElem?_drop] at k0 k1;exact ⟨c0.trans k0,c1.trans k1⟩
set_option maxRecDepth 100000 in
theorem contract (H : Type) (enc : TypeId × Value → H) (W : World) (base : Nat) (args : Array Value) (ds gs : List (DataW H)) (before : List MemPlace)
  (hval : ∀ (j : Nat) t v,Tryd.f3.params[j]? = some t → args[j]? = some v → Value.okWide Tryd.prog W .any base t v)
  (hW : DataW.Whole enc Tryd.prog Tryd.f3.params.toList Rows.resolveRightSpec.vars false W args.toList ds gs before)
  (hbulk : Rows.uptoBulkAll (ds ++ gs) ≤ 1048576)
  (hsz : (DataW.weightsEach Tryd.prog (Tryd.f3.params.toList ++ (OpenSpec.ofChange Rows.resolveRightSpec).bare.plain.varTypes Tryd.prog) (ds ++ gs)).all (· ≤ reachBytes) = true)
  (hL : laidMetH Tryd.prog Rows.resolveRightRow.laid W) :
  Calls Tryd.prog 3 args W fun e W' => ∃ v,e = .returned v ∧ Rows.resolveRightSpec.post enc Tryd.prog Tryd.f3 false true false false W args v W' := by
 have hW' := hW;obtain ⟨p,q,hA0,hV,rfl,hfz,hnd⟩ := hW;have hA : DataW.TrodAll enc Tryd.prog W 0 (fun _ => true) true Tryd.f3.params.toList args.toList ds p := hA0;rw [Tryd.params3] at hA hval hsz;obtain ⟨v0,vs0,d0,ds0,p0,q0,hargs,rfl,rfl,h0,r0⟩ := trodAll_cons hA;obtain ⟨rfl,rfl,rfl⟩ := trodAll_nil r0;obtain rfl : args = #[v0] := by cases args;simp_all
 obtain ⟨rfl,rfl⟩ := trodVars_none hV;obtain ⟨a0,len0,cap0,rfl⟩ := okWide_slice Tryd.underlying22 (hval 0 22 v0 rfl rfl);have k0 := h0
 have lt0 : ∀ x ∈ p0,x.block < W.heap.size := by
  obtain ⟨m,hm⟩ := k0;exact DataW.trod_lt m _ _ _ hm
 have hw0 : ∀ n ∈ d0.weights Tryd.prog 22,n ≤ reachBytes := weights_le (j := 0) hsz rfl rfl;obtain ⟨xs,hl,hcap,hC,hG,hM⟩ := open_arg_slice open_kepts h0 hw0
 have hfit : ∀ k ∈ xs,KeptFit k := keptFit_of hG (Nat.le_trans hM (by
  simp only [List.append_nil,Rows.uptoBulkAll] at hbulk;omega))
 subst hl;clear hA0;refine (right_walk a0 cap0 xs W (glob hL) hC hcap hfit).mono fun e W' ⟨he,bel⟩ => ?_
 subst he;exact ⟨_,rfl,_,_,_,[],_,[],hW',trodAll_mk1 (shut_bool Tryd.underlying4 _),(trodAll_cons_mk (Below.trod laidOut (by kernel_rfl) (of_decide_eq_true (by kernel_rfl)) k0 bel lt0) trodAll_mk0),rfl,bel.frame _,fun h => by cases h⟩
noncomputable def laidWorld (os : Os) : World :=
 { World.holding Tryd.prog os ⟨#[], #[],[]⟩ with heap := (World.holding Tryd.prog os ⟨#[], #[],[]⟩).heap.modify 0 fun
   | .cells _ t frozen => .cells #[.int .i64 (-1), .int .i64 (-1)] t frozen
   | o => o }
theorem laid_met (os : Os) : laidMet Tryd.prog Rows.resolveRightRow.laid ((laidWorld os).forCall (fun _ _ => 0) ⟨#[], #[.slice none 0 0],[]⟩).memory :=
 laidMet_of_run' 8 (by kernel_rfl) (by kernel_rfl)
theorem reads (os : Os) {H : Type} (enc : TypeId × Value → H) : ∃ places,DataW.whole enc Tryd.prog ((laidWorld os).forCall (fun _ _ => 0) ⟨#[], #[.slice none 0 0],[]⟩).memory Tryd.f3.params.toList Rows.resolveRightSpec.vars false #[Value.slice none 0 0].toList 8 = some ([.nil],[],places) :=
 ⟨[],by kernel_rfl⟩
set_option maxRecDepth 100000 in
theorem liftedUpto (os : Os) (started : os.Started) (H : Type) (enc : TypeId × Value → H) (F : Stop.Interp) :
  ReturnsInHanded {} Tryd.checked os 3 .any ((Rows.OpenSpec.upto Rows.resolveRightSpec).preRow enc Tryd.prog Tryd.f3 Rows.resolveRightUptoRow.domain false Rows.resolveRightUptoRow.laid) (((Rows.OpenSpec.upto Rows.resolveRightSpec).at F).post enc Tryd.prog Tryd.f3 false true false false) := by
 obtain ⟨places,hx⟩ := reads os enc
 refine returnsInHanded_of_row (C := Tryd.checked) (s := Rows.OpenSpec.upto Rows.resolveRightSpec) own started (by kernel_rfl) Tryd.func3
  (witness_row_at (enc := enc) (C := Tryd.checked) false (laidWorld os) #[.slice none 0 0] rfl (by kernel_rfl) (by kernel_rfl) (by kernel_rfl)
   (OpenSpec.preRow_of_cond 8 hx (by kernel_rfl) (fun k hk => by cases hk;kernel_rfl) (by kernel_rfl) (laid_met os))) ?_
 intro W base args ds gs before hval hW _ hcond hsz hL _ _;exact contract H enc W base args ds gs before hval hW (of_decide_eq_true (hcond _ rfl)) hsz hL
theorem saidUpto : Rows.ResolveRightUptoSaid :=
 OpenClaim.holds_of_cond 3 Tryd.f3 rfl rfl rfl rfl rfl rfl rfl ⟨rfl,rfl,rfl,rfl,rfl⟩ rfl rfl rfl rfl rfl (by kernel_rfl) Tryd.func3 (by kernel_rfl)
  (of_decide_eq_true (by kernel_rfl)) (by unfold Func.isWrapper;first | (rw [if_pos (by decide +kernel)];kernel_rfl) | (rw [if_neg (by decide +kernel)];exact ⟨rfl,rfl⟩))
  (fun os started H enc _ F => by rw [OpenClaim.pre_eq_preRow];exact liftedUpto os started H enc F)
theorem plain (f : FuncId) (fn : Func) (hf : Tryd.pinned.checked.prog.funcNamed "quoin/quoinlaw23.ResolveRight" = some f) (hfn : Tryd.pinned.checked.prog.funcs[f]? = some fn) :
  false = Tryd.pinned.checked.prog.looks [] ∧ ∀ (j : Nat) t,fn.params[j]? = some t → Tryd.pinned.checked.prog.wantsStandIn t = false := by
 obtain rfl : f = 3 := Option.some.inj ((show Tryd.prog.funcNamed "quoin/quoinlaw23.ResolveRight" = some 3 by kernel_rfl).symm.trans hf) |>.symm;obtain rfl : fn = Tryd.f3 := (Option.some.inj (Tryd.func3.symm.trans hfn)).symm;refine ⟨by kernel_rfl,fun j t ht => ?_⟩;rw [Tryd.params3] at ht;obtain rfl : t = 22 := by simpa using Array.mem_of_getElem? ht
 exact (show Tryd.prog.wantsStandIn 22 = false by kernel_rfl)
theorem cardUpto : Rows.ResolveRightUptoCardSaid :=
 Claim7.holds_tied_plain_at .later [] _ _ _ _ saidUpto (fun _ h => by cases h) (by kernel_rfl) (fun _ h => by cases h) resolveRightUpto_row_tie rfl ⟨rfl,rfl⟩ (by kernel_rfl) rfl plain (by kernel_rfl)
end Go.Proofs.YtalomolellcefaaDoor.rowRight
namespace Go.Proofs.YtalomolellcefaaDoor
theorem resolveRightUpto_card : Rows.ResolveRightUptoCardSaid := rowRight.cardUpto
#print axioms resolveRightUpto_card
end Go.Proofs.YtalomolellcefaaDoor
