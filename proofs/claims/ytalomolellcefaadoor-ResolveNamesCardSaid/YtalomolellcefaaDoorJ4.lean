/- What is proved here: steps on the way to the law (texts joined by a program: Q32, Tot, Q33, ElfTot, Mul, Repeat, EqualB, GroupsR, ResCheck, Compare, Once, Drawn). -/
import Derived.Test.YtalomolellcefaaDoorJ1
import Derived.Test.YtalomolellcefaaDoorJ2
import Derived.Test.YtalomolellcefaaDoorJ3
import Derived.WalkSpells
import Derived.Laws.CopyOwn
import Derived.IntWalk
import Derived.Deep.RegionLaw
import Derived.StringKeys
import Derived.Maps.Keyed
import Derived.Tactics
import Derived.WalkKit
set_option linter.unusedSimpArgs false
set_option linter.unusedVariables false
namespace Go.Proofs.YtalomolellcefaaDoor.Q
open Go.RowKit Go.Proofs.YtalomolellcefaaDoorW.PrintWords Go.Proofs.YtalomolellcefaaDoorW.PrintLast Go.Proofs.YtalomolellcefaaDoorW.PrintMore
attribute [local go_sem] max2_int min2_int max_two min_two
mutual
def elfw_relasMay.l0 : Nat → List (S94) → Int → Int → List (S72) → List (S40) → List (S94) → List (S68) → Option (Bool)
 | 0,_,_,_,_,_,_,_ => none
 | k + 1,x12,x13,x14,x442000,x442001,x442002,x442003 => if x14 < x13 then (if 0 ≤ x14 then (if x14 < (x12.length : Int) then ((rela_Check.f k ((rd_T94 x12 x14).f0) ((rd_T94 x12 x14).f1) ((rd_T94 x12 x14).f2) ((rd_T94 x12 x14).f3) ((rd_T94 x12 x14).f4) x442000 (x442001.length : Int)).bind fun t444 => (if t444 = 0 then (if ((rd_T94 x12 x14).f2) = 43 then (if 0 ≤ (wrap64 (((rd_T94 x12 x14).f0) - 1)) then (if (wrap64 (((rd_T94 x12 x14).f0) - 1)) < (x442000.length : Int) then (if 0 ≤ ((rd_T94 x12 x14).f1) then (if ((rd_T94 x12 x14).f1) ≤ (wrap64 (((rd_T94 x12 x14).f1) + ((rd_T94 x12 x14).f4))) then (if (wrap64 (((rd_T94 x12 x14).f1) + ((rd_T94 x12 x14).f4))) ≤ (((rd_T72 x442000 (wrap64 (((rd_T94 x12 x14).f0) - 1))).f2).length : Int) then ((elfw_filled.f ((((rd_T72 x442000 (wrap64 (((rd_T94 x12 x14).f0) - 1))).f2).take ((wrap64 (((rd_T94 x12 x14).f1) + ((rd_T94 x12 x14).f4))) : Int).toNat).drop (((rd_T94 x12 x14).f1) : Int).toNat)).bind fun t447 => (elfw_relasMay.j1 k x14 x12 x13 x14 (!t447) x442000 x442001 x442002 x442003 ((rd_T94 x12 x14).f0) ((rd_T94 x12 x14).f1) ((rd_T94 x12 x14).f2) ((rd_T94 x12 x14).f3) ((rd_T94 x12 x14).f4))) else (none)) else (none)) else (none)) else (none)) else (none)) else (elfw_relasMay.j1 k x14 x12 x13 x14 false x442000 x442001 x442002 x442003 ((rd_T94 x12 x14).f0) ((rd_T94 x12 x14).f1) ((rd_T94 x12 x14).f2) ((rd_T94 x12 x14).f3) ((rd_T94 x12 x14).f4))) else (some false))) else (none)) else (none)) else (some true)
def elfw_relasMay.j1 : Nat → Int → List (S94) → Int → Int → Bool → List (S72) → List (S40) → List (S94) → List (S68) → Int → Int → Int → Int → Int → Option (Bool)
 | 0,_,_,_,_,_,_,_,_,_,_,_,_,_,_ => none
 | k + 1,x3,x12,x13,x14,x49,x442000,x442001,x442002,x442003,x444000,x444001,x444002,x444003,x444004 => if x49 = true then (some false) else (if 0 ≤ x3 then (if x3 ≤ (x442002.length : Int) then ((some (x442002.take (x3 : Int).toNat : List (S94))).bind fun y448 => (elfw_relasMay.l1 k x12 x13 x14 y448 (y448.length : Int) 0 x442000 x442001 x442002 x442003 x444000 x444001 x444002 x444003 x444004)) else (none)) else (none))
def elfw_relasMay.l1 : Nat → List (S94) → Int → Int → List (S94) → Int → Int → List (S72) → List (S40) → List (S94) → List (S68) → Int → Int → Int → Int → Int → Option (Bool)
 | 0,_,_,_,_,_,_,_,_,_,_,_,_,_,_,_ => none
 | k + 1,x12,x13,x14,x53,x54,x55,x442000,x442001,x442002,x442003,x444000,x444001,x444002,x444003,x444004 => if x55 < x54 then (if 0 ≤ x55 then (if x55 < (x53.length : Int) then (if ((rd_T94 x53 x55).f0) > x444000 then (elfw_relasMay.j3 k x12 x13 x14 x53 x54 x55 true x442000 x442001 x442002 x442003 x444000 x444001 x444002 x444003 x444004) else (if ((rd_T94 x53 x55).f0) = x444000 then (if ((rd_T94 x53 x55).f1) > x444001 then (elfw_relasMay.j3 k x12 x13 x14 x53 x54 x55 true x442000 x442001 x442002 x442003 x444000 x444001 x444002 x444003 x444004) else ((elfw_apart.f k ((rd_T94 x53 x55).f0) ((rd_T94 x53 x55).f1) ((rd_T94 x53 x55).f2) ((rd_T94 x53 x55).f3) ((rd_T94 x53 x55).f4) x444000 x444001 x444002 x444003 x444004).bind fun t454 => (elfw_relasMay.j3 k x12 x13 x14 x53 x54 x55 (!t454) x442000 x442001 x442002 x442003 x444000 x444001 x444002 x444003 x444004))) else (elfw_relasMay.j3 k x12 x13 x14 x53 x54 x55 false x442000 x442001 x442002 x442003 x444000 x444001 x444002 x444003 x444004))) else (none)) else (none)) else (elfw_relasMay.l0 k x12 x13 (wrap64 (x14 + 1)) x442000 x442001 x442002 x442003)
def elfw_relasMay.j3 : Nat → List (S94) → Int → Int → List (S94) → Int → Int → Bool → List (S72) → List (S40) → List (S94) → List (S68) → Int → Int → Int → Int → Int → Option (Bool)
 | 0,_,_,_,_,_,_,_,_,_,_,_,_,_,_,_,_ => none
 | k + 1,x12,x13,x14,x53,x54,x55,x83,x442000,x442001,x442002,x442003,x444000,x444001,x444002,x444003,x444004 => if x83 = true then (some false) else (elfw_relasMay.l1 k x12 x13 x14 x53 x54 (wrap64 (x55 + 1)) x442000 x442001 x442002 x442003 x444000 x444001 x444002 x444003 x444004)
end
def elfw_relasMay.f (k : Nat) (l0_0 : List (S72)) (l0_1 : List (S40)) (l0_2 : List (S94)) (l0_3 : List (S68)) : Option (Bool) := if (l0_2.length : Int) > 256 then (some false) else (elfw_relasMay.l0 k l0_2 (l0_2.length : Int) 0 l0_0 l0_1 l0_2 l0_3)
theorem elfw_relasMay.mono_l : ∀ k,(∀ y0 y1 y2 y3 y4 y5 y6,LeO (elfw_relasMay.l0 k y0 y1 y2 y3 y4 y5 y6) (elfw_relasMay.l0 (k + 1) y0 y1 y2 y3 y4 y5 y6)) ∧ (∀ y0 y1 y2 y3 y4 y5 y6 y7 y8 y9 y10 y11 y12 y13,LeO (elfw_relasMay.j1 k y0 y1 y2 y3 y4 y5 y6 y7 y8 y9 y10 y11 y12 y13) (elfw_relasMay.j1 (k + 1) y0 y1 y2 y3 y4 y5 y6 y7 y8 y9 y10 y11 y12 y13)) ∧ (∀ y0 y1 y2 y3 y4 y5 y6 y7 y8 y9 y10 y11 y12 y13 y14,LeO (elfw_relasMay.l1 k y0 y1 y2 y3 y4 y5 y6 y7 y8 y9 y10 y11 y12 y13 y14) (elfw_relasMay.l1 (k + 1) y0 y1 y2 y3 y4 y5 y6 y7 y8 y9 y10 y11 y12 y13 y14)) ∧ (∀ y0 y1 y2 y3 y4 y5 y6 y7 y8 y9 y10 y11 y12 y13 y14 y15,LeO (elfw_relasMay.j3 k y0 y1 y2 y3 y4 y5 y6 y7 y8 y9 y10 y11 y12 y13 y14 y15) (elfw_relasMay.j3 (k + 1) y0 y1 y2 y3 y4 y5 y6 y7 y8 y9 y10 y11 y12 y13 y14 y15))
 | 0 => ⟨fun _ _ _ _ _ _ _ r h => by simp [elfw_relasMay.l0] at h,fun _ _ _ _ _ _ _ _ _ _ _ _ _ _ r h => by simp [elfw_relasMay.j1] at h,fun _ _ _ _ _ _ _ _ _ _ _ _ _ _ _ r h => by simp [elfw_relasMay.l1] at h,fun _ _ _ _ _ _ _ _ _ _ _ _ _ _ _ _ r h => by simp [elfw_relasMay.j3] at h⟩
 | k + 1 => by
  obtain ⟨ih0,ih1,ih2,ih3⟩ := elfw_relasMay.mono_l k;refine ⟨?_, ?_, ?_, ?_⟩
  ·intro y0 y1 y2 y3 y4 y5 y6
   unfold elfw_relasMay.l0;repeat' first
   | (with_reducible exact ih0 _ _ _ _ _ _ _)
   | (with_reducible exact ih1 _ _ _ _ _ _ _ _ _ _ _ _ _ _)
   | (with_reducible exact ih2 _ _ _ _ _ _ _ _ _ _ _ _ _ _ _)
   | (with_reducible exact ih3 _ _ _ _ _ _ _ _ _ _ _ _ _ _ _ _)
   | (with_reducible exact elfw_apart.mono _ _ _ _ _ _ _ _ _ _ _)
   | (with_reducible exact rela_Check.mono _ _ _ _ _ _ _ _)
   | (with_reducible exact LeO.refl _)
   | (with_reducible exact LeO.none _)
   | (with_reducible refine LeO.ite ?_ ?_)
   | (with_reducible refine LeO.bind ?_ (fun _ => ?_))
   | exact ih0 _ _ _ _ _ _ _
   | exact ih1 _ _ _ _ _ _ _ _ _ _ _ _ _ _
   | exact ih2 _ _ _ _ _ _ _ _ _ _ _ _ _ _ _
   | exact ih3 _ _ _ _ _ _ _ _ _ _ _ _ _ _ _ _
   | exact elfw_apart.mono _ _ _ _ _ _ _ _ _ _ _
   | exact rela_Check.mono _ _ _ _ _ _ _ _
   | exact LeO.none _
   | refine LeO.ite ?_ ?_
   | refine LeO.bind ?_ (fun _ => ?_)
  ·intro y0 y1 y2 y3 y4 y5 y6 y7 y8 y9 y10 y11 y12 y13
   unfold elfw_relasMay.j1;repeat' first
   | (with_reducible exact ih0 _ _ _ _ _ _ _)
   | (with_reducible exact ih1 _ _ _ _ _ _ _ _ _ _ _ _ _ _)
   | (with_reducible exact ih2 _ _ _ _ _ _ _ _ _ _ _ _ _ _ _)
   | (with_reducible exact ih3 _ _ _ _ _ _ _ _ _ _ _ _ _ _ _ _)
   | (with_reducible exact elfw_apart.mono _ _ _ _ _ _ _ _ _ _ _)
   | (with_reducible exact rela_Check.mono _ _ _ _ _ _ _ _)
   | (with_reducible exact LeO.refl _)
   | (with_reducible exact LeO.none _)
   | (with_reducible refine LeO.ite ?_ ?_)
   | (with_reducible refine LeO.bind ?_ (fun _ => ?_))
   | exact ih0 _ _ _ _ _ _ _
   | exact ih1 _ _ _ _ _ _ _ _ _ _ _ _ _ _
   | exact ih2 _ _ _ _ _ _ _ _ _ _ _ _ _ _ _
   | exact ih3 _ _ _ _ _ _ _ _ _ _ _ _ _ _ _ _
   | exact elfw_apart.mono _ _ _ _ _ _ _ _ _ _ _
   | exact rela_Check.mono _ _ _ _ _ _ _ _
   | exact LeO.none _
   | refine LeO.ite ?_ ?_
   | refine LeO.bind ?_ (fun _ => ?_)
  ·intro y0 y1 y2 y3 y4 y5 y6 y7 y8 y9 y10 y11 y12 y13 y14
   unfold elfw_relasMay.l1;repeat' first
   | (with_reducible exact ih0 _ _ _ _ _ _ _)
   | (with_reducible exact ih1 _ _ _ _ _ _ _ _ _ _ _ _ _ _)
   | (with_reducible exact ih2 _ _ _ _ _ _ _ _ _ _ _ _ _ _ _)
   | (with_reducible exact ih3 _ _ _ _ _ _ _ _ _ _ _ _ _ _ _ _)
   | (with_reducible exact elfw_apart.mono _ _ _ _ _ _ _ _ _ _ _)
   | (with_reducible exact rela_Check.mono _ _ _ _ _ _ _ _)
   | (with_reducible exact LeO.refl _)
   | (with_reducible exact LeO.none _)
   | (with_reducible refine LeO.ite ?_ ?_)
   | (with_reducible refine LeO.bind ?_ (fun _ => ?_))
   | exact ih0 _ _ _ _ _ _ _
   | exact ih1 _ _ _ _ _ _ _ _ _ _ _ _ _ _
   | exact ih2 _ _ _ _ _ _ _ _ _ _ _ _ _ _ _
   | exact ih3 _ _ _ _ _ _ _ _ _ _ _ _ _ _ _ _
   | exact elfw_apart.mono _ _ _ _ _ _ _ _ _ _ _
   | exact rela_Check.mono _ _ _ _ _ _ _ _
   | exact LeO.none _
   | refine LeO.ite ?_ ?_
   | refine LeO.bind ?_ (fun _ => ?_)
  intro y0 y1 y2 y3 y4 y5 y6 y7 y8 y9 y10 y11 y12 y13 y14 y15;unfold elfw_relasMay.j3;repeat' first
  | (with_reducible exact ih0 _ _ _ _ _ _ _)
  | (with_reducible exact ih1 _ _ _ _ _ _ _ _ _ _ _ _ _ _)
  | (with_reducible exact ih2 _ _ _ _ _ _ _ _ _ _ _ _ _ _ _)
  | (with_reducible exact ih3 _ _ _ _ _ _ _ _ _ _ _ _ _ _ _ _)
  | (with_reducible exact elfw_apart.mono _ _ _ _ _ _ _ _ _ _ _)
  | (with_reducible exact rela_Check.mono _ _ _ _ _ _ _ _)
  | (with_reducible exact LeO.refl _)
  | (with_reducible exact LeO.none _)
  | (with_reducible refine LeO.ite ?_ ?_)
  | (with_reducible refine LeO.bind ?_ (fun _ => ?_))
  | exact ih0 _ _ _ _ _ _ _
  | exact ih1 _ _ _ _ _ _ _ _ _ _ _ _ _ _
  | exact ih2 _ _ _ _ _ _ _ _ _ _ _ _ _ _ _
  | exact ih3 _ _ _ _ _ _ _ _ _ _ _ _ _ _ _ _
  | exact elfw_apart.mono _ _ _ _ _ _ _ _ _ _ _
  | exact rela_Check.mono _ _ _ _ _ _ _ _
  | exact LeO.none _
  | refine LeO.ite ?_ ?_
  | refine LeO.bind ?_ (fun _ => ?_)
theorem elfw_relasMay.mono : ∀ a0 a1 a2 a3 k,LeO (elfw_relasMay.f k a0 a1 a2 a3) (elfw_relasMay.f (k + 1) a0 a1 a2 a3) := by
 intro a0 a1 a2 a3 k;obtain ⟨ih0,ih1,ih2,ih3⟩ := elfw_relasMay.mono_l k;unfold elfw_relasMay.f
 repeat' first
   | (with_reducible exact ih0 _ _ _ _ _ _ _)
   | (with_reducible exact ih1 _ _ _ _ _ _ _ _ _ _ _ _ _ _)
   | (with_reducible exact ih2 _ _ _ _ _ _ _ _ _ _ _ _ _ _ _)
   | (with_reducible exact ih3 _ _ _ _ _ _ _ _ _ _ _ _ _ _ _ _)
   | (with_reducible exact elfw_apart.mono _ _ _ _ _ _ _ _ _ _ _)
   | (with_reducible exact rela_Check.mono _ _ _ _ _ _ _ _)
   | (with_reducible exact LeO.refl _)
   | (with_reducible exact LeO.none _)
   | (with_reducible refine LeO.ite ?_ ?_)
   | (with_reducible refine LeO.bind ?_ (fun _ => ?_))
   | exact ih0 _ _ _ _ _ _ _
   | exact ih1 _ _ _ _ _ _ _ _ _ _ _ _ _ _
   | exact ih2 _ _ _ _ _ _ _ _ _ _ _ _ _ _ _
   | exact ih3 _ _ _ _ _ _ _ _ _ _ _ _ _ _ _ _
   | exact elfw_apart.mono _ _ _ _ _ _ _ _ _ _ _
   | exact rela_Check.mono _ _ _ _ _ _ _ _
   | exact LeO.none _
   | refine LeO.ite ?_ ?_
   | refine LeO.bind ?_ (fun _ => ?_)
def elfw_relasMay.T8 : Bool × List (List Nat × List Nat) := (true,[([],[]),([0],[0]),([1],[1]),([2],[2]),([3],[3]),([4,3],[3,4]),([3],[3]),([6,3],[3,6]),([7,3],[3,7]),([5,8,3],[3,5,8]),([9,3],[3,9]),([10,3],[3,10]),([3],[3]),([12,3],[3,12]),([3],[3]),([14,3],[3,14]),([3],[3]),([16,3],[3,16]),([15,17,3],[3,15,17]),([11,13,18,3],[3,11,13,18]),([19,3,3],[3,19]),([20,3],[3,20]),([3,21],[3,21])])
def elfw_relasMay.B8 : List Nat := [0,1,3,7,15,31,15,79,207,511,1023,2047,15,4111,15,16399,15,65551,245775,524287,1048575,2097151,4194303]
theorem elfw_relasMay.tab8 : rtab .any (opsOf Tryd.f35 8) = elfw_relasMay.T8 := by kernel_rfl
theorem elfw_relasMay.bits8 : waitsOk elfw_relasMay.T8.2 elfw_relasMay.B8 = true := by kernel_rfl
set_option maxHeartbeats 8000000 in
set_option maxRecDepth 100000 in
theorem elfw_relasMay.calls (k : Nat) (A0_0 : Option Addr) (c0_0 : Nat) (l0_0 : List (S72)) (A0_1 : Option Addr) (c0_1 : Nat) (l0_1 : List (S40)) (A0_2 : Option Addr) (c0_2 : Nat) (l0_2 : List (S94)) (A0_3 : Option Addr) (c0_3 : Nat) (l0_3 : List (S68)) (r : Bool) (w : World) (hr0_0 : Kd.C k72 w A0_0 l0_0.length l0_0) (hc0_0 : l0_0.length ≤ c0_0) (hr0_1 : Kd.C k40 w A0_1 l0_1.length l0_1) (hc0_1 : l0_1.length ≤ c0_1) (hr0_2 : Kd.C k94 w A0_2 l0_2.length l0_2) (hc0_2 : l0_2.length ≤ c0_2) (hr0_3 : Kd.C k68 w A0_3 l0_3.length l0_3) (hc0_3 : l0_3.length ≤ c0_3) (h : elfw_relasMay.f k l0_0 l0_1 l0_2 l0_3 = some r) :
  Calls Tryd.prog 35 #[.agg #[.slice A0_0 l0_0.length c0_0, .slice A0_1 l0_1.length c0_1, .slice A0_2 l0_2.length c0_2, .slice A0_3 l0_3.length c0_3]] w fun e w' => e = .returned (.bool r) ∧ Below w.heap.size w w' := by
 have hu35 := Tryd.underlying35;have hu94 := Tryd.underlying94;have HR0_0 := am0 hr0_0;have HC0_0 := am0 hc0_0;clear hr0_0 hc0_0;have HR0_1 := am0 hr0_1;have HC0_1 := am0 hc0_1;clear hr0_1 hc0_1;have HR0_2 := am0 hr0_2;have HC0_2 := am0 hc0_2;clear hr0_2 hc0_2;have HR0_3 := am0 hr0_3;have HC0_3 := am0 hc0_3;clear hr0_3 hc0_3;have HB := am0 (Below.refl w.heap.size w);have H : (if (l0_2.length : Int) > 256 then (some false) else (elfw_relasMay.l0 k l0_2 (l0_2.length : Int) 0 l0_0 l0_1 l0_2 l0_3)) = some r := h;clear h
 by_cases c2 : (l0_2.length : Int) > 256
 ·rw [if_pos c2] at H
  have c2b0 : decide (256 < (l0_2.length : Int)) = true := decide_eq_true c2;have c2b1 : decide (256 < l0_2.length) = true := decide_eq_true (by omega);clear c2;obtain rfl := Option.some.inj H;go_enter Tryd.func35,Tryd.ntmps35
  go_wp2_with (first | ((with_reducible refine gate_dst (N := 1) rfl ?_);refine box_event ?hg (N := 1) ?hd (cs := #[.slice A0_0 l0_0.length c0_0, .slice A0_1 l0_1.length c0_1, .slice A0_2 l0_2.length c0_2, .slice A0_3 l0_3.length c0_3]) (t := 35) ?hr ?_;(case hd => rfl);(case hg => rfl);(case hr => first | (go_simp;done) | (go_simp;rfl));intro gb441 hg w3 hbox hb;have n0_ := am0 (below_step (by repeat (first | (with_reducible first | exact HB.out | apply below_alloc | apply pw_below_drewN | apply below_drew1) | exact HB.out)) hb);have n1_ := am0 (hbox);have n2_ := am0 ((by rw [hg];exact (below_size (by repeat (first | (with_reducible first | exact HB.out | apply below_alloc | apply pw_below_drewN | apply below_drew1) | exact HB.out))) : w.heap.size ≤ gb441));have n3_ := am0 ((by rw [hg];exact (below_size (by repeat (first | (with_reducible first | exact HB.out | apply below_alloc | apply pw_below_drewN | apply below_drew1) | exact HB.out))) : w.heap.size ≤ gb441));clear HB;have HB := n0_;have BK441 := n1_;have GW441 := n2_;have GE441 := n3_;clear n0_ n1_ n2_ n3_;clear hb hbox hg;have hcz4_0 : w3.cell? ⟨gb441,0,none⟩ = some (.slice A0_0 l0_0.length c0_0) := (blk_cell BK441.out 0).trans rfl;have hcz4_1 : w3.cell? ⟨gb441,1,none⟩ = some (.slice A0_1 l0_1.length c0_1) := (blk_cell BK441.out 1).trans rfl;have hcz4_2 : w3.cell? ⟨gb441,2,none⟩ = some (.slice A0_2 l0_2.length c0_2) := (blk_cell BK441.out 2).trans rfl;have hcz4_3 : w3.cell? ⟨gb441,3,none⟩ = some (.slice A0_3 l0_3.length c0_3) := (blk_cell BK441.out 3).trans rfl;have hfz4_0 := blk_frozen BK441.out 0;have hfz4_1 := blk_frozen BK441.out 1;have hfz4_2 := blk_frozen BK441.out 2;have hfz4_3 := blk_frozen BK441.out 3))
  go_ret
  exact ⟨by first | rfl | (simp [errW_none,errW_some] <;> rfl) | (simp [*,errW_none,errW_some] <;> rfl),by repeat (first | (with_reducible first | exact HB.out | apply below_alloc | apply pw_below_drewN | apply below_drew1 | refine below_set ?_ GE441.out) | exact HB.out)⟩
 rw [if_neg c2] at H;have c2b0 : decide (256 < (l0_2.length : Int)) = false := decide_eq_false c2;have c2b1 : decide (256 < l0_2.length) = false := decide_eq_false (by omega);clear c2;have H' := am0 H;clear H;go_enter Tryd.func35,Tryd.ntmps35
 go_wp2_with (first | ((with_reducible refine gate_dst (N := 1) rfl ?_);refine box_event ?hg (N := 1) ?hd (cs := #[.slice A0_0 l0_0.length c0_0, .slice A0_1 l0_1.length c0_1, .slice A0_2 l0_2.length c0_2, .slice A0_3 l0_3.length c0_3]) (t := 35) ?hr ?_;(case hd => rfl);(case hg => rfl);(case hr => first | (go_simp;done) | (go_simp;rfl));intro gb441 hg w5 hbox hb;have n0_ := am0 (below_step (by repeat (first | (with_reducible first | exact HB.out | apply below_alloc | apply pw_below_drewN | apply below_drew1) | exact HB.out)) hb);have n1_ := am0 (hbox);have n2_ := am0 ((by rw [hg];exact (below_size (by repeat (first | (with_reducible first | exact HB.out | apply below_alloc | apply pw_below_drewN | apply below_drew1) | exact HB.out))) : w.heap.size ≤ gb441));have n3_ := am0 ((by rw [hg];exact (below_size (by repeat (first | (with_reducible first | exact HB.out | apply below_alloc | apply pw_below_drewN | apply below_drew1) | exact HB.out))) : w.heap.size ≤ gb441));clear HB;have HB := n0_;have BK441 := n1_;have GW441 := n2_;have GE441 := n3_;clear n0_ n1_ n2_ n3_;clear hb hbox hg;have hcz6_0 : w5.cell? ⟨gb441,0,none⟩ = some (.slice A0_0 l0_0.length c0_0) := (blk_cell BK441.out 0).trans rfl;have hcz6_1 : w5.cell? ⟨gb441,1,none⟩ = some (.slice A0_1 l0_1.length c0_1) := (blk_cell BK441.out 1).trans rfl;have hcz6_2 : w5.cell? ⟨gb441,2,none⟩ = some (.slice A0_2 l0_2.length c0_2) := (blk_cell BK441.out 2).trans rfl;have hcz6_3 : w5.cell? ⟨gb441,3,none⟩ = some (.slice A0_3 l0_3.length c0_3) := (blk_cell BK441.out 3).trans rfl;have hfz6_0 := blk_frozen BK441.out 0;have hfz6_1 := blk_frozen BK441.out 1;have hfz6_2 := blk_frozen BK441.out 2;have hfz6_3 := blk_frozen BK441.out 3))
 go_loopg [14] k (fun kq v14 w' => ∃ (x14_1 : Int),v14 = .int .i64 x14_1 ∧ Aside0 (elfw_relasMay.l0 kq l0_2 (l0_2.length : Int) x14_1 l0_0 l0_1 l0_2 l0_3 = some r) ∧ Aside0 (kq ≤ k) ∧ Aside0 (w'.heap[gb441]? = some (.cells #[(.slice A0_0 l0_0.length c0_0),(.slice A0_1 l0_1.length c0_1),(.slice A0_2 l0_2.length c0_2),(.slice A0_3 l0_3.length c0_3)] 35 (0,0))) ∧ Aside0 (Below w.heap.size w w'))
 case atStart => exact ⟨(0),(by first | rfl | (simp;done) | (simp [*];done)),H',⟨Nat.le_refl _⟩,⟨by (with_reducible repeat (first | refine blk_drewN ?_ _ | refine blk_drew ?_ | refine blk_alloc ?_ _));exact BK441.out⟩,⟨by repeat (first | (with_reducible first | exact HB.out | apply below_alloc | apply pw_below_drewN | apply below_drew1 | refine below_set ?_ GE441.out) | exact HB.out)⟩⟩
 case round =>
  clear H';try clear c2
  try clear c2b0
  try clear c2b1
  try clear p2
  try clear c3
  try clear hcz4_0
  try clear hcz4_1
  try clear hcz4_2
  try clear hcz4_3
  try clear hcz6_0
  try clear hcz6_1
  try clear hcz6_2
  try clear hcz6_3
  try clear hfz4_0
  try clear hfz4_1
  try clear hfz4_2
  try clear hfz4_3
  try clear hfz6_0
  try clear hfz6_1
  try clear hfz6_2
  try clear hfz6_3
  obtain ⟨x14_1,rfl,HA,HK1,BK441,HB⟩ := hrel
  cases gk with
  | zero => exact absurd HA.out (by simp [elfw_relasMay.l0])
  | succ k1 =>
   have H := HA.out;clear HA;simp only [elfw_relasMay.l0] at H
   by_cases c7 : x14_1 < (l0_2.length : Int)
   ·rw [if_pos c7] at H
    have c7b0 : decide (x14_1 < (l0_2.length : Int)) = true := decide_eq_true c7;clear c7
    by_cases c8 : 0 ≤ x14_1
    ·rw [if_pos c8] at H
     have c8b0 : decide (0 ≤ x14_1) = true := decide_eq_true c8;clear c8
     by_cases c9 : x14_1 < (l0_2.length : Int)
     ·rw [if_pos c9] at H
      have c9b0 : decide (x14_1 < (l0_2.length : Int)) = true := decide_eq_true c9;clear c9;replace H := Option.bind_eq_some_iff.mp H;obtain ⟨t444,A100,H⟩ := H;replace H : (if t444 = 0 then (if ((rd_T94 l0_2 x14_1).f2) = 43 then (if 0 ≤ (wrap64 (((rd_T94 l0_2 x14_1).f0) - 1)) then (if (wrap64 (((rd_T94 l0_2 x14_1).f0) - 1)) < (l0_0.length : Int) then (if 0 ≤ ((rd_T94 l0_2 x14_1).f1) then (if ((rd_T94 l0_2 x14_1).f1) ≤ (wrap64 (((rd_T94 l0_2 x14_1).f1) + ((rd_T94 l0_2 x14_1).f4))) then (if (wrap64 (((rd_T94 l0_2 x14_1).f1) + ((rd_T94 l0_2 x14_1).f4))) ≤ (((rd_T72 l0_0 (wrap64 (((rd_T94 l0_2 x14_1).f0) - 1))).f2).length : Int) then ((elfw_filled.f ((((rd_T72 l0_0 (wrap64 (((rd_T94 l0_2 x14_1).f0) - 1))).f2).take ((wrap64 (((rd_T94 l0_2 x14_1).f1) + ((rd_T94 l0_2 x14_1).f4))) : Int).toNat).drop (((rd_T94 l0_2 x14_1).f1) : Int).toNat)).bind fun t447 => (elfw_relasMay.j1 k1 x14_1 l0_2 (l0_2.length : Int) x14_1 (!t447) l0_0 l0_1 l0_2 l0_3 ((rd_T94 l0_2 x14_1).f0) ((rd_T94 l0_2 x14_1).f1) ((rd_T94 l0_2 x14_1).f2) ((rd_T94 l0_2 x14_1).f3) ((rd_T94 l0_2 x14_1).f4))) else (none)) else (none)) else (none)) else (none)) else (none)) else (elfw_relasMay.j1 k1 x14_1 l0_2 (l0_2.length : Int) x14_1 false l0_0 l0_1 l0_2 l0_3 ((rd_T94 l0_2 x14_1).f0) ((rd_T94 l0_2 x14_1).f1) ((rd_T94 l0_2 x14_1).f2) ((rd_T94 l0_2 x14_1).f3) ((rd_T94 l0_2 x14_1).f4))) else (some false)) = some r := H;have A10 := am0 A100;clear A100
      by_cases c11 : t444 = 0
      ·rw [if_pos c11] at H
       have c11b0 : (t444 == 0) = true := beq_iff_eq.mpr c11;have c11b1 : (t444 != 0) = false := bne_eq_false_iff_eq.mpr c11;clear c11;have HC12 := am0 H;clear H;have p442 : 0 ≤ (x14_1 : Int) := of_decide_eq_true (by first | (with_reducible assumption) | assumption);have q442 : x14_1 < (l0_2.length : Int) := of_decide_eq_true (by first | (with_reducible assumption) | assumption);obtain ⟨ad442,e442,hx442_0,hx442_1,hx442_2,hx442_3,hx442_4⟩ := at_T94 HR0_2.out x14_1 p442 q442;cases e442;replace hx442_0 := (HB.out.cell (World.block_lt_of_cell? w _ hx442_0)).trans hx442_0;replace hx442_1 := (HB.out.cell (World.block_lt_of_cell? w _ hx442_1)).trans hx442_1;replace hx442_2 := (HB.out.cell (World.block_lt_of_cell? w _ hx442_2)).trans hx442_2;replace hx442_3 := (HB.out.cell (World.block_lt_of_cell? w _ hx442_3)).trans hx442_3;replace hx442_4 := (HB.out.cell (World.block_lt_of_cell? w _ hx442_4)).trans hx442_4;replace p442 := eq_true p442;replace q442 := eq_true q442;go_upto_region 8 with (first | ((with_reducible refine gate_dst (N := 4) rfl ?_);refine box_event ?hg (N := 4) ?hd (cs := #[.int .i64 0, .int .i64 0, .int .u8 0, .int .i64 0, .int .i64 0]) (t := 94) ?hr ?_;(case hd => rfl);(case hg => rfl);(case hr => first | (go_simp;done) | (go_simp;rfl));intro gb443 hg w13 hbox hb;have n0_ := am0 (blk_below (g := gb441) (o := .cells #[.slice A0_0 l0_0.length c0_0, .slice A0_1 l0_1.length c0_1, .slice (some ad442) l0_2.length c0_2, .slice A0_3 l0_3.length c0_3] 35 (0,0)) (by (with_reducible repeat (first | refine blk_drewN ?_ _ | refine blk_drew ?_ | refine blk_alloc ?_ _));exact BK441.out) hb);have n1_ := am0 (below_step (by repeat (first | (with_reducible first | exact HB.out | apply below_alloc | apply pw_below_drewN | apply below_drew1 | refine below_set ?_ GE441.out) | exact HB.out)) hb);have n2_ := am0 (hbox);have n3_ := am0 ((by rw [hg];exact (below_size (by repeat (first | (with_reducible first | exact HB.out | apply below_alloc | apply pw_below_drewN | apply below_drew1 | refine below_set ?_ GE441.out) | exact HB.out))) : w.heap.size ≤ gb443));have n4_ := am0 ((by rw [hg];exact (below_size (by repeat (first | (with_reducible first | exact HB.out | apply below_alloc | apply pw_below_drewN | apply below_drew1 | refine below_set ?_ GE441.out) | exact HB.out))) : w.heap.size ≤ gb443));have n5_ := am0 ((by rw [hg];exact Nat.ne_of_lt (blk_lt (g := gb441) (o := .cells #[.slice A0_0 l0_0.length c0_0, .slice A0_1 l0_1.length c0_1, .slice (some ad442) l0_2.length c0_2, .slice A0_3 l0_3.length c0_3] 35 (0,0)) (by (with_reducible repeat (first | refine blk_drewN ?_ _ | refine blk_drew ?_ | refine blk_alloc ?_ _));exact BK441.out)) : gb441 ≠ gb443));have n6_ := am0 ((by rw [hg];exact Nat.ne_of_gt (blk_lt (g := gb441) (o := .cells #[.slice A0_0 l0_0.length c0_0, .slice A0_1 l0_1.length c0_1, .slice (some ad442) l0_2.length c0_2, .slice A0_3 l0_3.length c0_3] 35 (0,0)) (by (with_reducible repeat (first | refine blk_drewN ?_ _ | refine blk_drew ?_ | refine blk_alloc ?_ _));exact BK441.out)) : gb443 ≠ gb441));clear BK441;clear HB;have BK441 := n0_;have HB := n1_;have BK443 := n2_;have GW443 := n3_;have GE443 := n4_;have NB441_443 := n5_;have NB443_441 := n6_;clear n0_ n1_ n2_ n3_ n4_ n5_ n6_;clear hb hbox hg;have hnb14 := NB443_441.out;have hnc14 := NB441_443.out;have hcz15_0 : w13.cell? ⟨gb443,0,none⟩ = some (.int .i64 0) := (blk_cell BK443.out 0).trans rfl;have hcz15_1 : w13.cell? ⟨gb443,1,none⟩ = some (.int .i64 0) := (blk_cell BK443.out 1).trans rfl;have hcz15_2 : w13.cell? ⟨gb443,2,none⟩ = some (.int .u8 0) := (blk_cell BK443.out 2).trans rfl;have hcz15_3 : w13.cell? ⟨gb443,3,none⟩ = some (.int .i64 0) := (blk_cell BK443.out 3).trans rfl;have hcz15_4 : w13.cell? ⟨gb443,4,none⟩ = some (.int .i64 0) := (blk_cell BK443.out 4).trans rfl;have hfz15_0 := blk_frozen BK443.out 0;have hfz15_1 := blk_frozen BK443.out 1;have hfz15_2 := blk_frozen BK443.out 2;have hfz15_3 := blk_frozen BK443.out 3;have hfz15_4 := blk_frozen BK443.out 4;have hcz16_0 : w13.cell? ⟨gb441,0,none⟩ = some (.slice A0_0 l0_0.length c0_0) := (blk_cell BK441.out 0).trans rfl;have hcz16_1 : w13.cell? ⟨gb441,1,none⟩ = some (.slice A0_1 l0_1.length c0_1) := (blk_cell BK441.out 1).trans rfl;have hcz16_2 : w13.cell? ⟨gb441,2,none⟩ = some (.slice (some ad442) l0_2.length c0_2) := (blk_cell BK441.out 2).trans rfl;have hcz16_3 : w13.cell? ⟨gb441,3,none⟩ = some (.slice A0_3 l0_3.length c0_3) := (blk_cell BK441.out 3).trans rfl;have hfz16_0 := blk_frozen BK441.out 0;have hfz16_1 := blk_frozen BK441.out 1;have hfz16_2 := blk_frozen BK441.out 2;have hfz16_3 := blk_frozen BK441.out 3) | ((with_reducible refine gate_callee (f := 46) rfl ?_);refine goesL_ (some 25) rfl rfl Tryd.func46 (by kernel_rfl) rfl #[.agg #[.int .i64 ((rd_T94 l0_2 x14_1).f0), .int .i64 ((rd_T94 l0_2 x14_1).f1), .int .u8 ((rd_T94 l0_2 x14_1).f2), .int .i64 ((rd_T94 l0_2 x14_1).f3), .int .i64 ((rd_T94 l0_2 x14_1).f4)], .slice A0_0 l0_0.length c0_0, .int .i64 (l0_1.length : Int)] rfl (by (try simp only [List.map_toArray,List.map_cons,List.map_nil]);first | done | rfl | (simp only [List.length_drop,List.length_take];rfl)) ?_;(with_reducible refine (rela_Check.calls k1 ((rd_T94 l0_2 x14_1).f0) ((rd_T94 l0_2 x14_1).f1) ((rd_T94 l0_2 x14_1).f2) ((rd_T94 l0_2 x14_1).f3) ((rd_T94 l0_2 x14_1).f4) _ _ l0_0 (l0_1.length : Int) t444 _ ?side1 ?side2 A10.out).mono ?_);(case side1 => exact Kd.C_below HR0_0.out (by repeat (first | (with_reducible first | exact HB.out | apply below_alloc | apply pw_below_drewN | apply below_drew1 | refine below_set ?_ GE441.out | refine below_set ?_ GE443.out) | exact HB.out)));(case side2 => exact HC0_0.out);rintro e w17 ⟨rfl,hb⟩;refine ⟨_,rfl, ?_⟩;have n0_ := am0 (blk_below (g := gb441) (o := .cells #[.slice A0_0 l0_0.length c0_0, .slice A0_1 l0_1.length c0_1, .slice (some ad442) l0_2.length c0_2, .slice A0_3 l0_3.length c0_3] 35 (0,0)) (by (with_reducible repeat (first | refine blk_drewN ?_ _ | refine blk_drew ?_ | refine blk_alloc ?_ _));refine blk_far ?_ NB441_443.out _;(with_reducible repeat (first | refine blk_drewN ?_ _ | refine blk_drew ?_ | refine blk_alloc ?_ _));refine blk_far ?_ NB441_443.out _;(with_reducible repeat (first | refine blk_drewN ?_ _ | refine blk_drew ?_ | refine blk_alloc ?_ _));refine blk_far ?_ NB441_443.out _;(with_reducible repeat (first | refine blk_drewN ?_ _ | refine blk_drew ?_ | refine blk_alloc ?_ _));refine blk_far ?_ NB441_443.out _;(with_reducible repeat (first | refine blk_drewN ?_ _ | refine blk_drew ?_ | refine blk_alloc ?_ _));refine blk_far ?_ NB441_443.out _;(with_reducible repeat (first | refine blk_drewN ?_ _ | refine blk_drew ?_ | refine blk_alloc ?_ _));exact BK441.out) hb);have n1_ := am0 (blk_below (g := gb443) (o := .cells #[.int .i64 ((rd_T94 l0_2 x14_1).f0), .int .i64 ((rd_T94 l0_2 x14_1).f1), .int .u8 ((rd_T94 l0_2 x14_1).f2), .int .i64 ((rd_T94 l0_2 x14_1).f3), .int .i64 ((rd_T94 l0_2 x14_1).f4)] 94 (0,0)) (by (with_reducible repeat (first | refine blk_drewN ?_ _ | refine blk_drew ?_ | refine blk_alloc ?_ _));refine blk_put (cs := #[.int .i64 ((rd_T94 l0_2 x14_1).f0), .int .i64 ((rd_T94 l0_2 x14_1).f1), .int .u8 ((rd_T94 l0_2 x14_1).f2), .int .i64 ((rd_T94 l0_2 x14_1).f3), .int .i64 0]) ?_ 4 _ rfl;(with_reducible repeat (first | refine blk_drewN ?_ _ | refine blk_drew ?_ | refine blk_alloc ?_ _));refine blk_put (cs := #[.int .i64 ((rd_T94 l0_2 x14_1).f0), .int .i64 ((rd_T94 l0_2 x14_1).f1), .int .u8 ((rd_T94 l0_2 x14_1).f2), .int .i64 0, .int .i64 0]) ?_ 3 _ rfl;(with_reducible repeat (first | refine blk_drewN ?_ _ | refine blk_drew ?_ | refine blk_alloc ?_ _));refine blk_put (cs := #[.int .i64 ((rd_T94 l0_2 x14_1).f0), .int .i64 ((rd_T94 l0_2 x14_1).f1), .int .u8 0, .int .i64 0, .int .i64 0]) ?_ 2 _ rfl;(with_reducible repeat (first | refine blk_drewN ?_ _ | refine blk_drew ?_ | refine blk_alloc ?_ _));refine blk_put (cs := #[.int .i64 ((rd_T94 l0_2 x14_1).f0), .int .i64 0, .int .u8 0, .int .i64 0, .int .i64 0]) ?_ 1 _ rfl;(with_reducible repeat (first | refine blk_drewN ?_ _ | refine blk_drew ?_ | refine blk_alloc ?_ _));refine blk_put (cs := #[.int .i64 0, .int .i64 0, .int .u8 0, .int .i64 0, .int .i64 0]) ?_ 0 _ rfl;(with_reducible repeat (first | refine blk_drewN ?_ _ | refine blk_drew ?_ | refine blk_alloc ?_ _));exact BK443.out) hb);have n2_ := am0 (below_step (by repeat (first | (with_reducible first | exact HB.out | apply below_alloc | apply pw_below_drewN | apply below_drew1 | refine below_set ?_ GE441.out | refine below_set ?_ GE443.out) | exact HB.out)) hb);clear BK441;clear BK443;clear HB;have BK441 := n0_;have BK443 := n1_;have HB := n2_;clear n0_ n1_ n2_;(try clear hb);(try clear hb2);(try clear hk);(try clear hi)))
       (try simp only [Act.put,List.setIfInBounds_toArray,List.set_cons_zero,List.set_cons_succ])
       go_cut [49] (fun v49 wc => ∃ (kq : Nat) (x49_11 : Bool),v49 = .bool x49_11 ∧ Aside0 (elfw_relasMay.j1 kq x14_1 l0_2 (l0_2.length : Int) x14_1 x49_11 l0_0 l0_1 l0_2 l0_3 ((rd_T94 l0_2 x14_1).f0) ((rd_T94 l0_2 x14_1).f1) ((rd_T94 l0_2 x14_1).f2) ((rd_T94 l0_2 x14_1).f3) ((rd_T94 l0_2 x14_1).f4) = some r) ∧ Aside0 (kq ≤ k1) ∧ Aside0 (wc.heap[gb441]? = some (.cells #[(.slice A0_0 l0_0.length c0_0),(.slice A0_1 l0_1.length c0_1),(.slice (some ad442) l0_2.length c0_2),(.slice A0_3 l0_3.length c0_3)] 35 (0,0))) ∧ Aside0 (wc.heap[gb443]? = some (.cells #[.int .i64 ((rd_T94 l0_2 x14_1).f0), .int .i64 ((rd_T94 l0_2 x14_1).f1), .int .u8 ((rd_T94 l0_2 x14_1).f2), .int .i64 ((rd_T94 l0_2 x14_1).f3), .int .i64 ((rd_T94 l0_2 x14_1).f4)] 94 (0,0))) ∧ Aside0 (Below w.heap.size w wc))
       case first =>
        have H := HC12.out;clear HC12
        by_cases c18 : ((rd_T94 l0_2 x14_1).f2) = 43
        ·rw [if_pos c18] at H
         have c18b0 : (((rd_T94 l0_2 x14_1).f2) == 43) = true := beq_iff_eq.mpr c18;have c18b1 : (((rd_T94 l0_2 x14_1).f2) != 43) = false := bne_eq_false_iff_eq.mpr c18;clear c18
         (first | rw [c18b0] | (simp only [i64_w,i32_w];rw [c18b0]) | skip)
         obtain ⟨ji19,hji19⟩ : ∃ j_ : Int,(wrap64 (((rd_T94 l0_2 x14_1).f0) - 1)) = j_ := ⟨_,rfl⟩;replace H : (if 0 ≤ (ji19) then (if (ji19) < (l0_0.length : Int) then (if 0 ≤ ((rd_T94 l0_2 x14_1).f1) then (if ((rd_T94 l0_2 x14_1).f1) ≤ (wrap64 (((rd_T94 l0_2 x14_1).f1) + ((rd_T94 l0_2 x14_1).f4))) then (if (wrap64 (((rd_T94 l0_2 x14_1).f1) + ((rd_T94 l0_2 x14_1).f4))) ≤ (((rd_T72 l0_0 (ji19)).f2).length : Int) then ((elfw_filled.f ((((rd_T72 l0_0 (ji19)).f2).take ((wrap64 (((rd_T94 l0_2 x14_1).f1) + ((rd_T94 l0_2 x14_1).f4))) : Int).toNat).drop (((rd_T94 l0_2 x14_1).f1) : Int).toNat)).bind fun t447 => (elfw_relasMay.j1 k1 x14_1 l0_2 (l0_2.length : Int) x14_1 (!t447) l0_0 l0_1 l0_2 l0_3 ((rd_T94 l0_2 x14_1).f0) ((rd_T94 l0_2 x14_1).f1) ((rd_T94 l0_2 x14_1).f2) ((rd_T94 l0_2 x14_1).f3) ((rd_T94 l0_2 x14_1).f4))) else (none)) else (none)) else (none)) else (none)) else (none)) = some r := by first | (rw [hji19] at H;exact H) | (simp only [hji19] at H ⊢;exact H)
         have hji19w : (IntKind.i64.wrap (((rd_T94 l0_2 x14_1).f0) - 1)) = ji19 := (i64_w _).trans hji19
         by_cases c20 : 0 ≤ (ji19)
         ·rw [if_pos c20] at H
          have c20b0 : decide (0 ≤ (ji19)) = true := decide_eq_true c20;clear c20
          by_cases c21 : (ji19) < (l0_0.length : Int)
          ·rw [if_pos c21] at H
           have c21b0 : decide ((ji19) < (l0_0.length : Int)) = true := decide_eq_true c21;clear c21
           by_cases c22 : 0 ≤ ((rd_T94 l0_2 x14_1).f1)
           ·rw [if_pos c22] at H
            have c22b0 := eq_true c22;have c22b1 : decide (0 ≤ ((rd_T94 l0_2 x14_1).f1)) = true := decide_eq_true c22;clear c22
            by_cases c23 : ((rd_T94 l0_2 x14_1).f1) ≤ (wrap64 (((rd_T94 l0_2 x14_1).f1) + ((rd_T94 l0_2 x14_1).f4)))
            ·rw [if_pos c23] at H
             have c23b0 := eq_true c23;have c23b1 : decide (((rd_T94 l0_2 x14_1).f1) ≤ (wrap64 (((rd_T94 l0_2 x14_1).f1) + ((rd_T94 l0_2 x14_1).f4)))) = true := decide_eq_true c23
             by_cases c24 : (wrap64 (((rd_T94 l0_2 x14_1).f1) + ((rd_T94 l0_2 x14_1).f4))) ≤ (((rd_T72 l0_0 (ji19)).f2).length : Int)
             ·rw [if_pos c24] at H
              have c24b0 := eq_true c24;have c24b1 : decide ((wrap64 (((rd_T94 l0_2 x14_1).f1) + ((rd_T94 l0_2 x14_1).f4))) ≤ (((rd_T72 l0_0 (ji19)).f2).length : Int)) = true := decide_eq_true c24;replace H := Option.bind_eq_some_iff.mp H;obtain ⟨t447,A250,H⟩ := H;replace H : (elfw_relasMay.j1 k1 x14_1 l0_2 (l0_2.length : Int) x14_1 (!t447) l0_0 l0_1 l0_2 l0_3 ((rd_T94 l0_2 x14_1).f0) ((rd_T94 l0_2 x14_1).f1) ((rd_T94 l0_2 x14_1).f2) ((rd_T94 l0_2 x14_1).f3) ((rd_T94 l0_2 x14_1).f4)) = some r := H;have A25 := am0 A250;clear A250;have H' := am0 H;clear H;try go_wp2
              have n0_ := am0 (blk_drew BK441.out);have n1_ := am0 (blk_drew BK443.out);have n2_ := am0 (below_drew1 HB.out);clear BK441;clear BK443;clear HB;have BK441 := n0_;have BK443 := n1_;have HB := n2_;clear n0_ n1_ n2_;have p445 : 0 ≤ ((ji19) : Int) := of_decide_eq_true (by first | (with_reducible assumption) | assumption);have q445 : (ji19) < (l0_0.length : Int) := of_decide_eq_true (by first | (with_reducible assumption) | assumption);obtain ⟨ad445,A445_2,c445_2,e445,hx445_0,hx445_1,hx445_2,hx445_3,hl445_2,hi445_2⟩ := at_T72 HR0_0.out (ji19) p445 q445;have hw445_3 := hx445_3;have hw445_2 := hx445_2;have hw445_1 := hx445_1;have hw445_0 := hx445_0;cases e445;replace hx445_0 := (HB.out.cell (World.block_lt_of_cell? w _ hx445_0)).trans hx445_0;replace hx445_1 := (HB.out.cell (World.block_lt_of_cell? w _ hx445_1)).trans hx445_1;replace hx445_2 := (HB.out.cell (World.block_lt_of_cell? w _ hx445_2)).trans hx445_2;replace hx445_3 := (HB.out.cell (World.block_lt_of_cell? w _ hx445_3)).trans hx445_3;have HR445_2 := am0 hi445_2;have HC445_2 := am0 hl445_2;clear hi445_2 hl445_2;replace p445 := eq_true p445;replace q445 := eq_true q445;obtain ⟨i027,hi027,_,hsz27,_⟩ := info_parts info5;obtain ⟨A27,hcut27,hA27,hC27⟩ := print_mid_of (P := Tryd.prog) (Value.int .u8) 0 70 5 .i64 .i64 Tryd.underlying70 hi027 hsz27 A445_2 c445_2 ((rd_T72 l0_0 (ji19)).f2) ((rd_T94 l0_2 x14_1).f1) (wrap64 (((rd_T94 l0_2 x14_1).f1) + ((rd_T94 l0_2 x14_1).f4))) (of_decide_eq_true (by first | (with_reducible assumption) | assumption)) (by first | omega | exact of_decide_eq_true (by first | (with_reducible assumption) | assumption)) (of_decide_eq_true (by first | (with_reducible assumption) | assumption)) HC445_2.out;have HR446 := am0 (Kd.C_of_reads (h1 := fun _ => rfl) (hA27 _ (Kd.reads_of_C HR445_2.out)));have HC446 := am0 hC27;clear hA27 hC27 hi027 hsz27;refine start_ (n := 23) (S := fun w' => w'.cell? ⟨gb443,0,none⟩ = some (.int .i64 ((rd_T94 l0_2 x14_1).f0)) ∧ w'.cell? ⟨gb443,1,none⟩ = some (.int .i64 ((rd_T94 l0_2 x14_1).f1)) ∧ w'.cell? ⟨gb443,2,none⟩ = some (.int .u8 ((rd_T94 l0_2 x14_1).f2)) ∧ w'.cell? ⟨gb443,3,none⟩ = some (.int .i64 ((rd_T94 l0_2 x14_1).f3)) ∧ w'.cell? ⟨gb443,4,none⟩ = some (.int .i64 ((rd_T94 l0_2 x14_1).f4)) ∧ w'.cell? ⟨gb441,0,none⟩ = some (.slice (some ad445) l0_0.length c0_0) ∧ w'.cell? ⟨gb441,1,none⟩ = some (.slice A0_1 l0_1.length c0_1) ∧ w'.cell? ⟨gb441,2,none⟩ = some (.slice (some ad442) l0_2.length c0_2) ∧ w'.cell? ⟨gb441,3,none⟩ = some (.slice A0_3 l0_3.length c0_3) ∧ w'.cell? (ad445.add (((ji19)).toNat * 4)) = some (.string ((rd_T72 l0_0 (ji19)).f0)) ∧ w'.cell? ⟨(ad445.add (((ji19)).toNat * 4)).block,(ad445.add (((ji19)).toNat * 4)).off + 1,none⟩ = some (.int .i64 ((rd_T72 l0_0 (ji19)).f1)) ∧ w'.cell? ⟨(ad445.add (((ji19)).toNat * 4)).block,(ad445.add (((ji19)).toNat * 4)).off + 2,none⟩ = some (.slice A445_2 ((rd_T72 l0_0 (ji19)).f2).length c445_2) ∧ w'.cell? ⟨(ad445.add (((ji19)).toNat * 4)).block,(ad445.add (((ji19)).toNat * 4)).off + 3,none⟩ = some (.int .i64 ((rd_T72 l0_0 (ji19)).f3))) (ds := []) #[false,false,false,false,false,false,false,false,false,false,false,false,false,false,false,false,false,false,false,false,false,false,false] (by kernel_rfl) rfl rfl ⟨(blk_cell BK443.out 0).trans rfl,(blk_cell BK443.out 1).trans rfl,(blk_cell BK443.out 2).trans rfl,(blk_cell BK443.out 3).trans rfl,(blk_cell BK443.out 4).trans rfl,(blk_cell BK441.out 0).trans rfl,(blk_cell BK441.out 1).trans rfl,(blk_cell BK441.out 2).trans rfl,(blk_cell BK441.out 3).trans rfl,((HB.out.cell (World.block_lt_of_cell? w _ hw445_0)).trans hw445_0),((HB.out.cell (World.block_lt_of_cell? w _ hw445_1)).trans hw445_1),((HB.out.cell (World.block_lt_of_cell? w _ hw445_2)).trans hw445_2),((HB.out.cell (World.block_lt_of_cell? w _ hw445_3)).trans hw445_3)⟩ (fun hHeld => ?_);refine with_tabW elfw_relasMay.tab8 elfw_relasMay.bits8 (fun HT_ HW_ => ?_);generalize w17.drew = w26 at BK441 BK443 HB HR445_2 HR446 hx445_0 hx445_1 hx445_2 hx445_3 hHeld ⊢;refine pure_ (i := 0) (N := some 27) (v := ?_) (a' := ?_) #[true,false,false,false,false,false,false,false,false,false,false,false,false,false,false,false,false,false,false,false,false,false,false] rfl rfl (any_of HT_.out (by kernel_rfl)) (fun _ _ _ h => h) (Or.inl ⟨by rfl, ?_⟩) ?_ ?_;rotate_left
              ·intro w'
               go_simp
               with_reducible rfl
              rotate_left
              ·simp only [Act.put,List.setIfInBounds_toArray,List.set_cons_zero,List.set_cons_succ,i64_w,i32_w]
               rfl
              refine take_ (i := 1) (N := some 28) (v := ?_) (a' := ?_) #[true,true,false,false,false,false,false,false,false,false,false,false,false,false,false,false,false,false,false,false,false,false,false] rfl rfl (take_ofW HT_.out HW_.out (by kernel_rfl)) (fun _ _ _ h => h) (Or.inl ⟨by rfl, ?_⟩) hHeld ?_ ?_;rotate_left
              ·rintro w' ⟨s0,s1,s2,s3,s4,s5,s6,s7,s8,s9,s10,s11,s12⟩
               go_simp
               with_reducible rfl
              rotate_left
              ·simp only [Act.put,List.setIfInBounds_toArray,List.set_cons_zero,List.set_cons_succ,i64_w,i32_w]
               rfl
              refine pure_ (i := 2) (N := some 29) (v := ?_) (a' := ?_) #[true,true,true,false,false,false,false,false,false,false,false,false,false,false,false,false,false,false,false,false,false,false,false] rfl rfl (any_of HT_.out (by kernel_rfl)) (fun _ _ _ h => h) (Or.inl ⟨by rfl, ?_⟩) ?_ ?_;rotate_left
              ·intro w'
               go_simp
               with_reducible rfl
              rotate_left
              ·simp only [Act.put,List.setIfInBounds_toArray,List.set_cons_zero,List.set_cons_succ,i64_w,i32_w]
               rfl
              refine pure_ (i := 3) (N := some 30) (v := ?_) (a' := ?_) #[true,true,true,true,false,false,false,false,false,false,false,false,false,false,false,false,false,false,false,false,false,false,false] rfl rfl (any_of HT_.out (by kernel_rfl)) (fun _ _ _ h => h) (Or.inl ⟨by rfl, ?_⟩) ?_ ?_;rotate_left
              ·intro w'
               go_simp
               with_reducible rfl
              rotate_left
              ·simp only [Act.put,List.setIfInBounds_toArray,List.set_cons_zero,List.set_cons_succ,i64_w,i32_w]
               rfl
              refine pure_ (i := 4) (N := some 31) (v := ?_) (a' := ?_) #[true,true,true,true,true,false,false,false,false,false,false,false,false,false,false,false,false,false,false,false,false,false,false] rfl rfl (any_of HT_.out (by kernel_rfl)) (fun _ _ _ h => h) (Or.inl ⟨by rfl, ?_⟩) ?_ ?_;rotate_left
              ·intro w'
               go_simp
               with_reducible rfl
              rotate_left
              ·simp only [Act.put,List.setIfInBounds_toArray,List.set_cons_zero,List.set_cons_succ,i64_w,i32_w]
               rfl
              refine pure_ (i := 6) (N := some 33) (v := ?_) (a' := ?_) #[true,true,true,true,true,false,true,false,false,false,false,false,false,false,false,false,false,false,false,false,false,false,false] rfl rfl (any_of HT_.out (by kernel_rfl)) (fun _ _ _ h => h) (Or.inl ⟨by rfl, ?_⟩) ?_ ?_;rotate_left
              ·intro w'
               go_simp
               with_reducible rfl
              rotate_left
              ·simp only [Act.put,List.setIfInBounds_toArray,List.set_cons_zero,List.set_cons_succ,i64_w,i32_w]
               rfl
              refine pure_ (i := 12) (N := some 39) (v := ?_) (a' := ?_) #[true,true,true,true,true,false,true,false,false,false,false,false,true,false,false,false,false,false,false,false,false,false,false] rfl rfl (any_of HT_.out (by kernel_rfl)) (fun _ _ _ h => h) (Or.inl ⟨by rfl, ?_⟩) ?_ ?_;rotate_left
              ·intro w'
               go_simp
               with_reducible rfl
              rotate_left
              ·simp only [Act.put,List.setIfInBounds_toArray,List.set_cons_zero,List.set_cons_succ,i64_w,i32_w]
               rfl
              refine pure_ (i := 14) (N := some 41) (v := ?_) (a' := ?_) #[true,true,true,true,true,false,true,false,false,false,false,false,true,false,true,false,false,false,false,false,false,false,false] rfl rfl (any_of HT_.out (by kernel_rfl)) (fun _ _ _ h => h) (Or.inl ⟨by rfl, ?_⟩) ?_ ?_;rotate_left
              ·intro w'
               go_simp
               with_reducible rfl
              rotate_left
              ·simp only [Act.put,List.setIfInBounds_toArray,List.set_cons_zero,List.set_cons_succ,i64_w,i32_w]
               rfl
              refine pure_ (i := 16) (N := some 43) (v := ?_) (a' := ?_) #[true,true,true,true,true,false,true,false,false,false,false,false,true,false,true,false,true,false,false,false,false,false,false] rfl rfl (any_of HT_.out (by kernel_rfl)) (fun _ _ _ h => h) (Or.inl ⟨by rfl, ?_⟩) ?_ ?_;rotate_left
              ·intro w'
               go_simp
               with_reducible rfl
              rotate_left
              ·simp only [Act.put,List.setIfInBounds_toArray,List.set_cons_zero,List.set_cons_succ,i64_w,i32_w]
               rfl
              refine take_ (i := 5) (N := some 32) (v := ?_) (a' := ?_) #[true,true,true,true,true,true,true,false,false,false,false,false,true,false,true,false,true,false,false,false,false,false,false] rfl rfl (take_ofW HT_.out HW_.out (by kernel_rfl)) (fun _ _ _ h => h) (Or.inl ⟨by rfl, ?_⟩) hHeld ?_ ?_;rotate_left
              ·rintro w' ⟨s0,s1,s2,s3,s4,s5,s6,s7,s8,s9,s10,s11,s12⟩
               go_simp
               with_reducible rfl
              rotate_left
              ·simp only [Act.put,List.setIfInBounds_toArray,List.set_cons_zero,List.set_cons_succ,i64_w,i32_w]
               rfl
              refine take_ (i := 7) (N := some 34) (v := ?_) (a' := ?_) #[true,true,true,true,true,true,true,true,false,false,false,false,true,false,true,false,true,false,false,false,false,false,false] rfl rfl (take_ofW HT_.out HW_.out (by kernel_rfl)) (fun _ _ _ h => h) (Or.inl ⟨by rfl, ?_⟩) hHeld ?_ ?_;rotate_left
              ·rintro w' ⟨s0,s1,s2,s3,s4,s5,s6,s7,s8,s9,s10,s11,s12⟩
               go_simp
               with_reducible rfl
              rotate_left
              ·simp only [Act.put,List.setIfInBounds_toArray,List.set_cons_zero,List.set_cons_succ,i64_w,i32_w]
               rfl
              refine pure_ (i := 8) (N := some 35) (v := ?_) (a' := ?_) #[true,true,true,true,true,true,true,true,true,false,false,false,true,false,true,false,true,false,false,false,false,false,false] rfl rfl (any_of HT_.out (by kernel_rfl)) (fun _ _ _ h => h) (Or.inl ⟨by rfl, ?_⟩) ?_ ?_;rotate_left
              ·intro w'
               go_simp
               with_reducible rfl
              rotate_left
              ·simp only [Act.put,List.setIfInBounds_toArray,List.set_cons_zero,List.set_cons_succ,i64_w,i32_w]
               rfl
              refine pure_ (i := 9) (N := some 36) (v := ?_) (a' := ?_) #[true,true,true,true,true,true,true,true,true,true,false,false,true,false,true,false,true,false,false,false,false,false,false] rfl rfl (any_of HT_.out (by kernel_rfl)) (fun _ _ _ h => h) (Or.inl ⟨by rfl, ?_⟩) ?_ ?_;rotate_left
              ·intro w'
               go_simp
               with_reducible rfl
              rotate_left
              ·simp only [Act.put,List.setIfInBounds_toArray,List.set_cons_zero,List.set_cons_succ,i64_w,i32_w]
               rfl
              refine pure_ (i := 10) (N := some 37) (v := ?_) (a' := ?_) #[true,true,true,true,true,true,true,true,true,true,true,false,true,false,true,false,true,false,false,false,false,false,false] rfl rfl (any_of HT_.out (by kernel_rfl)) (fun _ _ _ h => h) (Or.inl ⟨by rfl, ?_⟩) ?_ ?_;rotate_left
              ·intro w'
               go_simp
               with_reducible rfl
              rotate_left
              ·simp only [Act.put,List.setIfInBounds_toArray,List.set_cons_zero,List.set_cons_succ,i64_w,i32_w]
               rfl
              refine take_ (i := 11) (N := some 38) (v := ?_) (a' := ?_) #[true,true,true,true,true,true,true,true,true,true,true,true,true,false,true,false,true,false,false,false,false,false,false] rfl rfl (take_ofW HT_.out HW_.out (by kernel_rfl)) (fun _ _ _ h => h) (Or.inl ⟨by rfl, ?_⟩) hHeld ?_ ?_;rotate_left
              ·rintro w' ⟨s0,s1,s2,s3,s4,s5,s6,s7,s8,s9,s10,s11,s12⟩
               go_simp
               with_reducible rfl
              rotate_left
              ·simp only [Act.put,List.setIfInBounds_toArray,List.set_cons_zero,List.set_cons_succ,i64_w,i32_w]
               rfl
              refine take_ (i := 13) (N := some 40) (v := ?_) (a' := ?_) #[true,true,true,true,true,true,true,true,true,true,true,true,true,true,true,false,true,false,false,false,false,false,false] rfl rfl (take_ofW HT_.out HW_.out (by kernel_rfl)) (fun _ _ _ h => h) (Or.inl ⟨by rfl, ?_⟩) hHeld ?_ ?_;rotate_left
              ·rintro w' ⟨s0,s1,s2,s3,s4,s5,s6,s7,s8,s9,s10,s11,s12⟩
               go_simp
               with_reducible rfl
              rotate_left
              ·simp only [Act.put,List.setIfInBounds_toArray,List.set_cons_zero,List.set_cons_succ,i64_w,i32_w]
               rfl
              refine take_ (i := 15) (N := some 42) (v := ?_) (a' := ?_) #[true,true,true,true,true,true,true,true,true,true,true,true,true,true,true,true,true,false,false,false,false,false,false] rfl rfl (take_ofW HT_.out HW_.out (by kernel_rfl)) (fun _ _ _ h => h) (Or.inl ⟨by rfl, ?_⟩) hHeld ?_ ?_;rotate_left
              ·rintro w' ⟨s0,s1,s2,s3,s4,s5,s6,s7,s8,s9,s10,s11,s12⟩
               go_simp
               with_reducible rfl
              rotate_left
              ·simp only [Act.put,List.setIfInBounds_toArray,List.set_cons_zero,List.set_cons_succ,i64_w,i32_w]
               rfl
              refine take_ (i := 17) (N := some 44) (v := ?_) (a' := ?_) #[true,true,true,true,true,true,true,true,true,true,true,true,true,true,true,true,true,true,false,false,false,false,false] rfl rfl (take_ofW HT_.out HW_.out (by kernel_rfl)) (fun _ _ _ h => h) (Or.inl ⟨by rfl, ?_⟩) hHeld ?_ ?_;rotate_left
              ·rintro w' ⟨s0,s1,s2,s3,s4,s5,s6,s7,s8,s9,s10,s11,s12⟩
               go_simp
               with_reducible rfl
              rotate_left
              ·simp only [Act.put,List.setIfInBounds_toArray,List.set_cons_zero,List.set_cons_succ,i64_w,i32_w]
               rfl
              refine pure_ (i := 18) (N := some 45) (v := ?_) (a' := ?_) #[true,true,true,true,true,true,true,true,true,true,true,true,true,true,true,true,true,true,true,false,false,false,false] rfl rfl (any_of HT_.out (by kernel_rfl)) (fun _ _ _ h => h) (Or.inl ⟨by rfl, ?_⟩) ?_ ?_;rotate_left
              ·intro w'
               go_simp
               with_reducible rfl
              rotate_left
              ·simp only [Act.put,List.setIfInBounds_toArray,List.set_cons_zero,List.set_cons_succ,i64_w,i32_w]
               rfl
              refine pure_ (i := 19) (N := some 46) (v := ?_) (a' := ?_) #[true,true,true,true,true,true,true,true,true,true,true,true,true,true,true,true,true,true,true,true,false,false,false] rfl rfl (any_of HT_.out (by kernel_rfl)) (fun _ _ _ h => h) (Or.inl ⟨by rfl, ?_⟩) ?_ ?_;rotate_left
              ·intro w'
               go_simp
               with_reducible rfl
              rotate_left
              ·simp only [Act.put,List.setIfInBounds_toArray,List.set_cons_zero,List.set_cons_succ,i64_w,i32_w]
               rfl
              refine one_ (i := 20) (N := some 47) #[true,true,true,true,true,true,true,true,true,true,true,true,true,true,true,true,true,true,true,true,true,false,false] rfl rfl (one_of HT_.out (by kernel_rfl)) (by decide) (fun K hK => ?_);refine goes_ Tryd.func47 (by kernel_rfl) rfl #[.slice A27 ((((rd_T72 l0_0 (ji19)).f2).take ((wrap64 (((rd_T94 l0_2 x14_1).f1) + ((rd_T94 l0_2 x14_1).f4))) : Int).toNat).drop (((rd_T94 l0_2 x14_1).f1) : Int).toNat).length (c445_2 - ((rd_T94 l0_2 x14_1).f1).toNat)] (by rfl) rfl rfl (by (try simp only [List.map_toArray,List.map_cons,List.map_nil]);first | done | (rw [show ((((rd_T72 l0_0 (ji19)).f2).take ((wrap64 (((rd_T94 l0_2 x14_1).f1) + ((rd_T94 l0_2 x14_1).f4))) : Int).toNat).drop (((rd_T94 l0_2 x14_1).f1) : Int).toNat).length = ((wrap64 (((rd_T94 l0_2 x14_1).f1) + ((rd_T94 l0_2 x14_1).f4))).toNat - ((rd_T94 l0_2 x14_1).f1).toNat) from (by rw [List.length_drop,List.length_take];have h_ : ((wrap64 (((rd_T94 l0_2 x14_1).f1) + ((rd_T94 l0_2 x14_1).f4))) : Int) ≤ (((rd_T72 l0_0 (ji19)).f2).length : Int) := of_decide_eq_true (by first | (with_reducible assumption) | assumption);omega)] <;> rfl) | (simp only [hji19];rfl) | rfl | (simp only [List.length_drop,List.length_take];rfl)) ?_
              with_reducible refine (elfw_filled.calls _ _ ((((rd_T72 l0_0 (ji19)).f2).take ((wrap64 (((rd_T94 l0_2 x14_1).f1) + ((rd_T94 l0_2 x14_1).f4))) : Int).toNat).drop (((rd_T94 l0_2 x14_1).f1) : Int).toNat) t447 _ ?side1 ?side2 A25.out).mono ?_
              (case side1 => repeat (first | exact (Kd.C_below HR446.out HB.out) | (with_reducible refine Kd.C_alloc ?_ _) | (with_reducible refine Kd.C_drewN ?_ _) | (with_reducible refine Kd.C_drew ?_)))
              (case side2 => exact HC446.out)
              rintro e w28 ⟨rfl,hb⟩
              refine ⟨_,rfl, ?_⟩;have n0_ := am0 (blk_below (g := gb441) (o := .cells #[.slice (some ad445) l0_0.length c0_0, .slice A0_1 l0_1.length c0_1, .slice (some ad442) l0_2.length c0_2, .slice A0_3 l0_3.length c0_3] 35 (0,0)) (by (with_reducible repeat (first | refine blk_drewN ?_ _ | refine blk_drew ?_ | refine blk_alloc ?_ _));exact BK441.out) hb);have n1_ := am0 (blk_below (g := gb443) (o := .cells #[.int .i64 ((rd_T94 l0_2 x14_1).f0), .int .i64 ((rd_T94 l0_2 x14_1).f1), .int .u8 ((rd_T94 l0_2 x14_1).f2), .int .i64 ((rd_T94 l0_2 x14_1).f3), .int .i64 ((rd_T94 l0_2 x14_1).f4)] 94 (0,0)) (by (with_reducible repeat (first | refine blk_drewN ?_ _ | refine blk_drew ?_ | refine blk_alloc ?_ _));exact BK443.out) hb);have n2_ := am0 (below_step (by repeat (first | (with_reducible first | exact HB.out | apply below_alloc | apply pw_below_drewN | apply below_drew1 | refine below_set ?_ GE441.out | refine below_set ?_ GE443.out) | exact HB.out)) hb);clear BK441;clear BK443;clear HB;have BK441 := n0_;have BK443 := n1_;have HB := n2_;clear n0_ n1_ n2_
              (try clear hb)
              (try clear hb2)
              (try clear hk)
              (try clear hi)
              refine hK.out _ _ ⟨(blk_cell BK443.out 0).trans rfl,(blk_cell BK443.out 1).trans rfl,(blk_cell BK443.out 2).trans rfl,(blk_cell BK443.out 3).trans rfl,(blk_cell BK443.out 4).trans rfl,(blk_cell BK441.out 0).trans rfl,(blk_cell BK441.out 1).trans rfl,(blk_cell BK441.out 2).trans rfl,(blk_cell BK441.out 3).trans rfl,((HB.out.cell (World.block_lt_of_cell? w _ hw445_0)).trans hw445_0),((HB.out.cell (World.block_lt_of_cell? w _ hw445_1)).trans hw445_1),((HB.out.cell (World.block_lt_of_cell? w _ hw445_2)).trans hw445_2),((HB.out.cell (World.block_lt_of_cell? w _ hw445_3)).trans hw445_3)⟩ (fun hHeld => ?_);clear hK K;refine norm_ (a' := ?_) ?_ ?_;rotate_left
              ·show Act.put _ (some 47) _ = _
               simp only [Act.put,List.setIfInBounds_toArray,List.set_cons_zero,List.set_cons_succ,i64_w,i32_w];rfl
              refine pure_ (i := 21) (N := some 48) (v := ?_) (a' := ?_) #[true,true,true,true,true,true,true,true,true,true,true,true,true,true,true,true,true,true,true,true,true,true,false] rfl rfl (any_of HT_.out (by kernel_rfl)) (fun _ _ _ h => h) (Or.inl ⟨by rfl, ?_⟩) ?_ ?_;rotate_left
              ·intro w'
               go_simp
               with_reducible rfl
              rotate_left
              ·simp only [Act.put,List.setIfInBounds_toArray,List.set_cons_zero,List.set_cons_succ,i64_w,i32_w]
               rfl
              refine pure_ (i := 22) (N := some 49) (v := ?_) (a' := ?_) #[true,true,true,true,true,true,true,true,true,true,true,true,true,true,true,true,true,true,true,true,true,true,true] rfl rfl (any_of HT_.out (by kernel_rfl)) (fun _ _ _ h => h) (Or.inl ⟨by rfl, ?_⟩) ?_ ?_;rotate_left
              ·intro w'
               go_simp
               with_reducible rfl
              rotate_left
              ·simp only [Act.put,List.setIfInBounds_toArray,List.set_cons_zero,List.set_cons_succ,i64_w,i32_w]
               rfl
              refine done_ (done_of HT_.out (by kernel_rfl)) ?_;try go_wp2
              go_meet
              case rel => exact ⟨_,(!t447),(by first | rfl | (simp;done) | (simp [*];done)),H',⟨by have := HK1.out;first | omega | exact Nat.le_refl _⟩,⟨by (with_reducible repeat (first | refine blk_drewN ?_ _ | refine blk_drew ?_ | refine blk_alloc ?_ _));exact BK441.out⟩,⟨by (with_reducible repeat (first | refine blk_drewN ?_ _ | refine blk_drew ?_ | refine blk_alloc ?_ _));exact BK443.out⟩,⟨by repeat (first | (with_reducible first | exact HB.out | apply below_alloc | apply pw_below_drewN | apply below_drew1 | refine below_set ?_ GE441.out | refine below_set ?_ GE443.out) | exact HB.out)⟩⟩
             rw [if_neg c24] at H;exact absurd H (by simp)
            rw [if_neg c23] at H;exact absurd H (by simp)
           rw [if_neg c22] at H;exact absurd H (by simp)
          rw [if_neg c21] at H;exact absurd H (by simp)
         rw [if_neg c20] at H;exact absurd H (by simp)
        rw [if_neg c18] at H;have c18b0 : (((rd_T94 l0_2 x14_1).f2) == 43) = false := beq_eq_false_iff_ne.mpr c18;have c18b1 : (((rd_T94 l0_2 x14_1).f2) != 43) = true := bne_iff_ne.mpr c18
        (first | rw [c18b0] | (simp only [i64_w,i32_w];rw [c18b0]) | skip)
        have H' := am0 H;clear H;try go_wp2
        have n0_ := am0 (blk_drew BK441.out);have n1_ := am0 (blk_drew BK443.out);have n2_ := am0 (below_drew1 HB.out);clear BK441;clear BK443;clear HB;have BK441 := n0_;have BK443 := n1_;have HB := n2_;clear n0_ n1_ n2_;refine start_ (n := 23) (S := fun w' => w'.cell? ⟨gb443,0,none⟩ = some (.int .i64 ((rd_T94 l0_2 x14_1).f0)) ∧ w'.cell? ⟨gb443,1,none⟩ = some (.int .i64 ((rd_T94 l0_2 x14_1).f1)) ∧ w'.cell? ⟨gb443,2,none⟩ = some (.int .u8 ((rd_T94 l0_2 x14_1).f2)) ∧ w'.cell? ⟨gb443,3,none⟩ = some (.int .i64 ((rd_T94 l0_2 x14_1).f3)) ∧ w'.cell? ⟨gb443,4,none⟩ = some (.int .i64 ((rd_T94 l0_2 x14_1).f4))) (ds := []) #[false,false,false,false,false,false,false,false,false,false,false,false,false,false,false,false,false,false,false,false,false,false,false] (by kernel_rfl) rfl rfl ⟨(blk_cell BK443.out 0).trans rfl,(blk_cell BK443.out 1).trans rfl,(blk_cell BK443.out 2).trans rfl,(blk_cell BK443.out 3).trans rfl,(blk_cell BK443.out 4).trans rfl⟩ (fun hHeld => ?_);refine with_tabW elfw_relasMay.tab8 elfw_relasMay.bits8 (fun HT_ HW_ => ?_);generalize w17.drew = w29 at BK441 BK443 HB hHeld ⊢;refine pure_ (i := 0) (N := some 27) (v := ?_) (a' := ?_) #[true,false,false,false,false,false,false,false,false,false,false,false,false,false,false,false,false,false,false,false,false,false,false] rfl rfl (any_of HT_.out (by kernel_rfl)) (fun _ _ _ h => h) (Or.inl ⟨by rfl, ?_⟩) ?_ ?_;rotate_left
        ·intro w'
         go_simp
         with_reducible rfl
        rotate_left
        ·simp only [Act.put,List.setIfInBounds_toArray,List.set_cons_zero,List.set_cons_succ,i64_w,i32_w]
         rfl
        refine take_ (i := 1) (N := some 28) (v := ?_) (a' := ?_) #[true,true,false,false,false,false,false,false,false,false,false,false,false,false,false,false,false,false,false,false,false,false,false] rfl rfl (take_ofW HT_.out HW_.out (by kernel_rfl)) (fun _ _ _ h => h) (Or.inl ⟨by rfl, ?_⟩) hHeld ?_ ?_;rotate_left
        ·rintro w' ⟨s0,s1,s2,s3,s4⟩
         go_simp
         with_reducible rfl
        rotate_left
        ·simp only [Act.put,List.setIfInBounds_toArray,List.set_cons_zero,List.set_cons_succ,i64_w,i32_w]
         rfl
        refine pure_ (i := 2) (N := some 29) (v := ?_) (a' := ?_) #[true,true,true,false,false,false,false,false,false,false,false,false,false,false,false,false,false,false,false,false,false,false,false] rfl rfl (any_of HT_.out (by kernel_rfl)) (fun _ _ _ h => h) (Or.inl ⟨by rfl, ?_⟩) ?_ ?_;rotate_left
        ·intro w'
         go_simp
         with_reducible rfl
        rotate_left
        ·simp only [Act.put,List.setIfInBounds_toArray,List.set_cons_zero,List.set_cons_succ,i64_w,i32_w]
         rfl
        refine pure_ (i := 3) (N := some 30) (v := ?_) (a' := ?_) #[true,true,true,true,false,false,false,false,false,false,false,false,false,false,false,false,false,false,false,false,false,false,false] rfl rfl (any_of HT_.out (by kernel_rfl)) (fun _ _ _ h => h) (Or.inl ⟨by rfl, ?_⟩) ?_ ?_;rotate_left
        ·intro w'
         go_simp
         with_reducible rfl
        rotate_left
        ·simp only [Act.put,List.setIfInBounds_toArray,List.set_cons_zero,List.set_cons_succ,i64_w,i32_w]
         rfl
        refine pure_ (i := 4) (N := some 31) (v := undef) (a' := ?_) #[true,true,true,true,true,false,false,false,false,false,false,false,false,false,false,false,false,false,false,false,false,false,false] rfl rfl (any_of HT_.out (by kernel_rfl)) (fun _ _ _ h => h) (Or.inr ⟨by rfl,rfl⟩) ?_ ?_;rotate_left
        ·simp only [Act.put,List.setIfInBounds_toArray,List.set_cons_zero,List.set_cons_succ,i64_w,i32_w]
         rfl
        refine pure_ (i := 5) (N := some 32) (v := undef) (a' := ?_) #[true,true,true,true,true,true,false,false,false,false,false,false,false,false,false,false,false,false,false,false,false,false,false] rfl rfl (any_of HT_.out (by kernel_rfl)) (fun _ _ _ h => h) (Or.inr ⟨by rfl,rfl⟩) ?_ ?_;rotate_left
        ·simp only [Act.put,List.setIfInBounds_toArray,List.set_cons_zero,List.set_cons_succ,i64_w,i32_w]
         rfl
        refine pure_ (i := 6) (N := some 33) (v := undef) (a' := ?_) #[true,true,true,true,true,true,true,false,false,false,false,false,false,false,false,false,false,false,false,false,false,false,false] rfl rfl (any_of HT_.out (by kernel_rfl)) (fun _ _ _ h => h) (Or.inr ⟨by rfl,rfl⟩) ?_ ?_;rotate_left
        ·simp only [Act.put,List.setIfInBounds_toArray,List.set_cons_zero,List.set_cons_succ,i64_w,i32_w]
         rfl
        refine pure_ (i := 7) (N := some 34) (v := undef) (a' := ?_) #[true,true,true,true,true,true,true,true,false,false,false,false,false,false,false,false,false,false,false,false,false,false,false] rfl rfl (any_of HT_.out (by kernel_rfl)) (fun _ _ _ h => h) (Or.inr ⟨by rfl,rfl⟩) ?_ ?_;rotate_left
        ·simp only [Act.put,List.setIfInBounds_toArray,List.set_cons_zero,List.set_cons_succ,i64_w,i32_w]
         rfl
        refine pure_ (i := 8) (N := some 35) (v := undef) (a' := ?_) #[true,true,true,true,true,true,true,true,true,false,false,false,false,false,false,false,false,false,false,false,false,false,false] rfl rfl (any_of HT_.out (by kernel_rfl)) (fun _ _ _ h => h) (Or.inr ⟨by rfl,rfl⟩) ?_ ?_;rotate_left
        ·simp only [Act.put,List.setIfInBounds_toArray,List.set_cons_zero,List.set_cons_succ,i64_w,i32_w]
         rfl
        refine pure_ (i := 9) (N := some 36) (v := undef) (a' := ?_) #[true,true,true,true,true,true,true,true,true,true,false,false,false,false,false,false,false,false,false,false,false,false,false] rfl rfl (any_of HT_.out (by kernel_rfl)) (fun _ _ _ h => h) (Or.inr ⟨by rfl,rfl⟩) ?_ ?_;rotate_left
        ·simp only [Act.put,List.setIfInBounds_toArray,List.set_cons_zero,List.set_cons_succ,i64_w,i32_w]
         rfl
        refine pure_ (i := 10) (N := some 37) (v := undef) (a' := ?_) #[true,true,true,true,true,true,true,true,true,true,true,false,false,false,false,false,false,false,false,false,false,false,false] rfl rfl (any_of HT_.out (by kernel_rfl)) (fun _ _ _ h => h) (Or.inr ⟨by rfl,rfl⟩) ?_ ?_;rotate_left
        ·simp only [Act.put,List.setIfInBounds_toArray,List.set_cons_zero,List.set_cons_succ,i64_w,i32_w]
         rfl
        refine pure_ (i := 11) (N := some 38) (v := undef) (a' := ?_) #[true,true,true,true,true,true,true,true,true,true,true,true,false,false,false,false,false,false,false,false,false,false,false] rfl rfl (any_of HT_.out (by kernel_rfl)) (fun _ _ _ h => h) (Or.inr ⟨by rfl,rfl⟩) ?_ ?_;rotate_left
        ·simp only [Act.put,List.setIfInBounds_toArray,List.set_cons_zero,List.set_cons_succ,i64_w,i32_w]
         rfl
        refine pure_ (i := 12) (N := some 39) (v := undef) (a' := ?_) #[true,true,true,true,true,true,true,true,true,true,true,true,true,false,false,false,false,false,false,false,false,false,false] rfl rfl (any_of HT_.out (by kernel_rfl)) (fun _ _ _ h => h) (Or.inr ⟨by rfl,rfl⟩) ?_ ?_;rotate_left
        ·simp only [Act.put,List.setIfInBounds_toArray,List.set_cons_zero,List.set_cons_succ,i64_w,i32_w]
         rfl
        refine pure_ (i := 13) (N := some 40) (v := undef) (a' := ?_) #[true,true,true,true,true,true,true,true,true,true,true,true,true,true,false,false,false,false,false,false,false,false,false] rfl rfl (any_of HT_.out (by kernel_rfl)) (fun _ _ _ h => h) (Or.inr ⟨by rfl,rfl⟩) ?_ ?_;rotate_left
        ·simp only [Act.put,List.setIfInBounds_toArray,List.set_cons_zero,List.set_cons_succ,i64_w,i32_w]
         rfl
        refine pure_ (i := 14) (N := some 41) (v := undef) (a' := ?_) #[true,true,true,true,true,true,true,true,true,true,true,true,true,true,true,false,false,false,false,false,false,false,false] rfl rfl (any_of HT_.out (by kernel_rfl)) (fun _ _ _ h => h) (Or.inr ⟨by rfl,rfl⟩) ?_ ?_;rotate_left
        ·simp only [Act.put,List.setIfInBounds_toArray,List.set_cons_zero,List.set_cons_succ,i64_w,i32_w]
         rfl
        refine pure_ (i := 15) (N := some 42) (v := undef) (a' := ?_) #[true,true,true,true,true,true,true,true,true,true,true,true,true,true,true,true,false,false,false,false,false,false,false] rfl rfl (any_of HT_.out (by kernel_rfl)) (fun _ _ _ h => h) (Or.inr ⟨by rfl,rfl⟩) ?_ ?_;rotate_left
        ·simp only [Act.put,List.setIfInBounds_toArray,List.set_cons_zero,List.set_cons_succ,i64_w,i32_w]
         rfl
        refine pure_ (i := 16) (N := some 43) (v := undef) (a' := ?_) #[true,true,true,true,true,true,true,true,true,true,true,true,true,true,true,true,true,false,false,false,false,false,false] rfl rfl (any_of HT_.out (by kernel_rfl)) (fun _ _ _ h => h) (Or.inr ⟨by rfl,rfl⟩) ?_ ?_;rotate_left
        ·simp only [Act.put,List.setIfInBounds_toArray,List.set_cons_zero,List.set_cons_succ,i64_w,i32_w]
         rfl
        refine pure_ (i := 17) (N := some 44) (v := undef) (a' := ?_) #[true,true,true,true,true,true,true,true,true,true,true,true,true,true,true,true,true,true,false,false,false,false,false] rfl rfl (any_of HT_.out (by kernel_rfl)) (fun _ _ _ h => h) (Or.inr ⟨by rfl,rfl⟩) ?_ ?_;rotate_left
        ·simp only [Act.put,List.setIfInBounds_toArray,List.set_cons_zero,List.set_cons_succ,i64_w,i32_w]
         rfl
        refine pure_ (i := 18) (N := some 45) (v := undef) (a' := ?_) #[true,true,true,true,true,true,true,true,true,true,true,true,true,true,true,true,true,true,true,false,false,false,false] rfl rfl (any_of HT_.out (by kernel_rfl)) (fun _ _ _ h => h) (Or.inr ⟨by rfl,rfl⟩) ?_ ?_;rotate_left
        ·simp only [Act.put,List.setIfInBounds_toArray,List.set_cons_zero,List.set_cons_succ,i64_w,i32_w]
         rfl
        refine pure_ (i := 19) (N := some 46) (v := undef) (a' := ?_) #[true,true,true,true,true,true,true,true,true,true,true,true,true,true,true,true,true,true,true,true,false,false,false] rfl rfl (any_of HT_.out (by kernel_rfl)) (fun _ _ _ h => h) (Or.inr ⟨by rfl,rfl⟩) ?_ ?_;rotate_left
        ·simp only [Act.put,List.setIfInBounds_toArray,List.set_cons_zero,List.set_cons_succ,i64_w,i32_w]
         rfl
        refine pure_ (i := 20) (N := some 47) (v := undef) (a' := ?_) #[true,true,true,true,true,true,true,true,true,true,true,true,true,true,true,true,true,true,true,true,true,false,false] rfl rfl (any_of HT_.out (by kernel_rfl)) (fun _ _ _ h => h) (Or.inr ⟨by rfl,rfl⟩) ?_ ?_;rotate_left
        ·simp only [Act.put,List.setIfInBounds_toArray,List.set_cons_zero,List.set_cons_succ,i64_w,i32_w]
         rfl
        refine pure_ (i := 21) (N := some 48) (v := undef) (a' := ?_) #[true,true,true,true,true,true,true,true,true,true,true,true,true,true,true,true,true,true,true,true,true,true,false] rfl rfl (any_of HT_.out (by kernel_rfl)) (fun _ _ _ h => h) (Or.inr ⟨by rfl,rfl⟩) ?_ ?_;rotate_left
        ·simp only [Act.put,List.setIfInBounds_toArray,List.set_cons_zero,List.set_cons_succ,i64_w,i32_w]
         rfl
        refine pure_ (i := 22) (N := some 49) (v := ?_) (a' := ?_) #[true,true,true,true,true,true,true,true,true,true,true,true,true,true,true,true,true,true,true,true,true,true,true] rfl rfl (any_of HT_.out (by kernel_rfl)) (fun _ _ _ h => h) (Or.inl ⟨by rfl, ?_⟩) ?_ ?_;rotate_left
        ·intro w'
         go_simp
         with_reducible rfl
        rotate_left
        ·simp only [Act.put,List.setIfInBounds_toArray,List.set_cons_zero,List.set_cons_succ,i64_w,i32_w]
         rfl
        refine done_ (done_of HT_.out (by kernel_rfl)) ?_;try go_wp2
        go_meet
        case rel => exact ⟨_,(false),(by first | rfl | (simp;done) | (simp [*];done)),H',⟨by have := HK1.out;first | omega | exact Nat.le_refl _⟩,⟨by (with_reducible repeat (first | refine blk_drewN ?_ _ | refine blk_drew ?_ | refine blk_alloc ?_ _));exact BK441.out⟩,⟨by (with_reducible repeat (first | refine blk_drewN ?_ _ | refine blk_drew ?_ | refine blk_alloc ?_ _));exact BK443.out⟩,⟨by repeat (first | (with_reducible first | exact HB.out | apply below_alloc | apply pw_below_drewN | apply below_drew1 | refine below_set ?_ GE441.out | refine below_set ?_ GE443.out) | exact HB.out)⟩⟩
       case rest =>
        clear HC12;try clear c1
        try clear c2
        try clear c2b0
        try clear c2b1
        try clear p2
        try clear c3
        try clear c4
        try clear p4
        try clear q4
        try clear hx4
        try clear p6
        try clear c7
        try clear c7b0
        try clear c8
        try clear c8b0
        try clear c9
        try clear c9b0
        try clear c11
        try clear c11b0
        try clear c11b1
        try clear c14
        try clear c18
        try clear c18b0
        try clear c18b1
        try clear c20
        try clear c20b0
        try clear c21
        try clear c21b0
        try clear c22
        try clear c22b0
        try clear c22b1
        try clear c23
        try clear c23b0
        try clear c23b1
        try clear c24
        try clear c24b0
        try clear c24b1
        try clear hcz15_0
        try clear hcz15_1
        try clear hcz15_2
        try clear hcz15_3
        try clear hcz15_4
        try clear hcz16_0
        try clear hcz16_1
        try clear hcz16_2
        try clear hcz16_3
        try clear hcz4_0
        try clear hcz4_1
        try clear hcz4_2
        try clear hcz4_3
        try clear hcz6_0
        try clear hcz6_1
        try clear hcz6_2
        try clear hcz6_3
        try clear hfz15_0
        try clear hfz15_1
        try clear hfz15_2
        try clear hfz15_3
        try clear hfz15_4
        try clear hfz16_0
        try clear hfz16_1
        try clear hfz16_2
        try clear hfz16_3
        try clear hfz4_0
        try clear hfz4_1
        try clear hfz4_2
        try clear hfz4_3
        try clear hfz6_0
        try clear hfz6_1
        try clear hfz6_2
        try clear hfz6_3
        try clear hx442_0
        try clear hx442_1
        try clear hx442_2
        try clear hx442_3
        try clear hx442_4
        try clear hx445_0
        try clear hx445_1
        try clear hx445_2
        try clear hx445_3
        try clear p2
        try clear p442
        try clear p445
        try clear q442
        try clear q445
        obtain ⟨kq,x49_11,rfl,HA,HJ11,BK441,BK443,HB⟩ := hcut
        cases kq with
        | zero => exact absurd HA.out (by simp [elfw_relasMay.j1])
        | succ kj11 =>
         have H := HA.out;clear HA;simp only [elfw_relasMay.j1] at H
         by_cases c30 : x49_11 = true
         ·subst c30
          have H1 : (some false) = some r := by rw [if_pos rfl] at H;exact H
          clear H;have H := H1;clear H1;obtain rfl := Option.some.inj H;go_wp2
          go_ret
          exact ⟨by first | rfl | (simp [errW_none,errW_some] <;> rfl) | (simp [*,errW_none,errW_some] <;> rfl),by repeat (first | (with_reducible first | exact HB.out | apply below_alloc | apply pw_below_drewN | apply below_drew1 | refine below_set ?_ GE441.out | refine below_set ?_ GE443.out) | exact HB.out)⟩
         replace c30 := Bool.eq_false_iff.mpr c30;subst c30;have H1 : (if 0 ≤ x14_1 then (if x14_1 ≤ (l0_2.length : Int) then ((some (l0_2.take (x14_1 : Int).toNat : List (S94))).bind fun y448 => (elfw_relasMay.l1 kj11 l0_2 (l0_2.length : Int) x14_1 y448 (y448.length : Int) 0 l0_0 l0_1 l0_2 l0_3 ((rd_T94 l0_2 x14_1).f0) ((rd_T94 l0_2 x14_1).f1) ((rd_T94 l0_2 x14_1).f2) ((rd_T94 l0_2 x14_1).f3) ((rd_T94 l0_2 x14_1).f4))) else (none)) else (none)) = some r := by rw [if_neg (show ¬ (false = true) by decide)] at H;exact H
         clear H;have H := H1;clear H1
         by_cases c31 : 0 ≤ x14_1
         ·rw [if_pos c31] at H
          have c31b0 := eq_true c31;have c31b1 : decide (0 ≤ x14_1) = true := decide_eq_true c31;clear c31
          by_cases c32 : x14_1 ≤ (l0_2.length : Int)
          ·rw [if_pos c32] at H
           have c32b0 := eq_true c32;have c32b1 : decide (x14_1 ≤ (l0_2.length : Int)) = true := decide_eq_true c32;clear c32;obtain ⟨y448,hy448⟩ : ∃ y_ : List (S94),y_ = (l0_2.take (x14_1 : Int).toNat) := ⟨_,rfl⟩;replace H : (elfw_relasMay.l1 kj11 l0_2 (l0_2.length : Int) x14_1 y448 (y448.length : Int) 0 l0_0 l0_1 l0_2 l0_3 ((rd_T94 l0_2 x14_1).f0) ((rd_T94 l0_2 x14_1).f1) ((rd_T94 l0_2 x14_1).f2) ((rd_T94 l0_2 x14_1).f3) ((rd_T94 l0_2 x14_1).f4)) = some r := by first | (rw [hy448];with_reducible exact H) | (have H2_ := (Option.bind_some _ _).symm.trans H;rw [hy448];with_reducible exact H2_) | (have H2_ := (Option.bind_some _ _).symm.trans H;with_reducible exact H2_) | with_reducible exact H | (rw [hy448];exact H) | exact H
           have Ny448 := am0 hy448;clear hy448;have H' := am0 H;clear H;have hnb33 := NB441_443.out;have hnc33 := NB443_441.out;have hcz34_0 : wc.cell? ⟨gb441,0,none⟩ = some (.slice A0_0 l0_0.length c0_0) := (blk_cell BK441.out 0).trans rfl;have hcz34_1 : wc.cell? ⟨gb441,1,none⟩ = some (.slice A0_1 l0_1.length c0_1) := (blk_cell BK441.out 1).trans rfl;have hcz34_2 : wc.cell? ⟨gb441,2,none⟩ = some (.slice (some ad442) l0_2.length c0_2) := (blk_cell BK441.out 2).trans rfl;have hcz34_3 : wc.cell? ⟨gb441,3,none⟩ = some (.slice A0_3 l0_3.length c0_3) := (blk_cell BK441.out 3).trans rfl;have hfz34_0 := blk_frozen BK441.out 0;have hfz34_1 := blk_frozen BK441.out 1;have hfz34_2 := blk_frozen BK441.out 2;have hfz34_3 := blk_frozen BK441.out 3;have q35 : (x14_1 : Int) ≤ ((l0_2.length : Int) : Int) := of_decide_eq_true (by first | (with_reducible assumption) | assumption);obtain ⟨i035,hi035,_,hsz35,_⟩ := info_parts info94;have hroom35 : l0_2.length ≤ c0_2 := HC0_2.out;have hC35 : Kd.C k94 _ (some ad442) l0_2.length l0_2 := HR0_2.out;have hcut35 := cut_to (P := Tryd.prog) 32 94 .i64 Tryd.underlying32 hi035 (some ad442) l0_2.length c0_2 x14_1 (of_decide_eq_true (by first | (with_reducible assumption) | assumption)) q35 hroom35;have hr35 := Kd.C_take (m := (x14_1 : Int).toNat) hC35 (by omega);have hy35 : y448.length = (x14_1 : Int).toNat := (by rw [Ny448.out,List.length_take];omega);rw [← Ny448.out] at hr35;rw [← hy35] at hcut35;have HR451 := am0 hr35;have HC451 := am0 (show y448.length ≤ c0_2 from by omega);clear hr35 hC35 hroom35 hi035 hsz35;have KY35 := am0 hy35;clear hy35;replace q35 := eq_true q35;go_wp2
           go_loopg [55] kj11 (fun kq v55 w' => ∃ (x55_3 : Int),v55 = .int .i64 x55_3 ∧ Aside0 (elfw_relasMay.l1 kq l0_2 (l0_2.length : Int) x14_1 y448 (y448.length : Int) x55_3 l0_0 l0_1 l0_2 l0_3 ((rd_T94 l0_2 x14_1).f0) ((rd_T94 l0_2 x14_1).f1) ((rd_T94 l0_2 x14_1).f2) ((rd_T94 l0_2 x14_1).f3) ((rd_T94 l0_2 x14_1).f4) = some r) ∧ Aside0 (kq ≤ kj11) ∧ Aside0 (w'.heap[gb441]? = some (.cells #[(.slice A0_0 l0_0.length c0_0),(.slice A0_1 l0_1.length c0_1),(.slice (some ad442) l0_2.length c0_2),(.slice A0_3 l0_3.length c0_3)] 35 (0,0))) ∧ Aside0 (w'.heap[gb443]? = some (.cells #[.int .i64 ((rd_T94 l0_2 x14_1).f0), .int .i64 ((rd_T94 l0_2 x14_1).f1), .int .u8 ((rd_T94 l0_2 x14_1).f2), .int .i64 ((rd_T94 l0_2 x14_1).f3), .int .i64 ((rd_T94 l0_2 x14_1).f4)] 94 (0,0))) ∧ Aside0 (Below w.heap.size w w'))
           case atStart => exact ⟨(0),(by first | rfl | (simp;done) | (simp [*];done)),H',⟨Nat.le_refl _⟩,⟨by (with_reducible repeat (first | refine blk_drewN ?_ _ | refine blk_drew ?_ | refine blk_alloc ?_ _));exact BK441.out⟩,⟨by (with_reducible repeat (first | refine blk_drewN ?_ _ | refine blk_drew ?_ | refine blk_alloc ?_ _));exact BK443.out⟩,⟨by repeat (first | (with_reducible first | exact HB.out | apply below_alloc | apply pw_below_drewN | apply below_drew1 | refine below_set ?_ GE441.out | refine below_set ?_ GE443.out) | exact HB.out)⟩⟩
           case round =>
            clear H';try clear c1
            try clear c2
            try clear c2b0
            try clear c2b1
            try clear p2
            try clear c3
            try clear q3
            try clear c4
            try clear p4
            try clear q4
            try clear hx4
            try clear p6
            try clear c7
            try clear c7b0
            try clear c8
            try clear c8b0
            try clear c9
            try clear c9b0
            try clear c11
            try clear c11b0
            try clear c11b1
            try clear c14
            try clear c18
            try clear c18b0
            try clear c18b1
            try clear c20
            try clear c20b0
            try clear c21
            try clear c21b0
            try clear c22
            try clear c22b0
            try clear c22b1
            try clear c23
            try clear c23b0
            try clear c23b1
            try clear c24
            try clear c24b0
            try clear c24b1
            try clear c30
            try clear c31
            try clear c31b0
            try clear c31b1
            try clear c32
            try clear c32b0
            try clear c32b1
            try clear c33
            try clear q35
            try clear hcz15_0
            try clear hcz15_1
            try clear hcz15_2
            try clear hcz15_3
            try clear hcz15_4
            try clear hcz16_0
            try clear hcz16_1
            try clear hcz16_2
            try clear hcz16_3
            try clear hcz34_0
            try clear hcz34_1
            try clear hcz34_2
            try clear hcz34_3
            try clear hcz4_0
            try clear hcz4_1
            try clear hcz4_2
            try clear hcz4_3
            try clear hcz6_0
            try clear hcz6_1
            try clear hcz6_2
            try clear hcz6_3
            try clear hfz15_0
            try clear hfz15_1
            try clear hfz15_2
            try clear hfz15_3
            try clear hfz15_4
            try clear hfz16_0
            try clear hfz16_1
            try clear hfz16_2
            try clear hfz16_3
            try clear hfz34_0
            try clear hfz34_1
            try clear hfz34_2
            try clear hfz34_3
            try clear hfz4_0
            try clear hfz4_1
            try clear hfz4_2
            try clear hfz4_3
            try clear hfz6_0
            try clear hfz6_1
            try clear hfz6_2
            try clear hfz6_3
            try clear hx442_0
            try clear hx442_1
            try clear hx442_2
            try clear hx442_3
            try clear hx442_4
            try clear hx445_0
            try clear hx445_1
            try clear hx445_2
            try clear hx445_3
            try clear p2
            try clear p4
            try clear p442
            try clear p445
            try clear p6
            try clear q35
            try clear q4
            try clear q442
            try clear q445
            obtain ⟨x55_3,rfl,HA,HK3,BK441,BK443,HB⟩ := hrel
            cases gk with
            | zero => exact absurd HA.out (by simp [elfw_relasMay.l1])
            | succ k3 =>
             have H := HA.out;clear HA;simp only [elfw_relasMay.l1] at H
             by_cases c36 : x55_3 < (y448.length : Int)
             ·rw [if_pos c36] at H
              have c36b0 : decide (x55_3 < (y448.length : Int)) = true := decide_eq_true c36;clear c36
              by_cases c37 : 0 ≤ x55_3
              ·rw [if_pos c37] at H
               have c37b0 : decide (0 ≤ x55_3) = true := decide_eq_true c37;clear c37
               by_cases c38 : x55_3 < (y448.length : Int)
               ·rw [if_pos c38] at H
                have c38b0 : decide (x55_3 < (y448.length : Int)) = true := decide_eq_true c38;clear c38;have HC39 := am0 H;clear H;have p452 : 0 ≤ (x55_3 : Int) := of_decide_eq_true (by first | (with_reducible assumption) | assumption);have q452 : x55_3 < (y448.length : Int) := of_decide_eq_true (by first | (with_reducible assumption) | assumption);obtain ⟨ad452,e452,hx452_0,hx452_1,hx452_2,hx452_3,hx452_4⟩ := at_T94 HR451.out x55_3 p452 q452;obtain rfl : ad442 = ad452 := (by injection e452);replace hx452_0 := (HB.out.cell (World.block_lt_of_cell? w _ hx452_0)).trans hx452_0;replace hx452_1 := (HB.out.cell (World.block_lt_of_cell? w _ hx452_1)).trans hx452_1;replace hx452_2 := (HB.out.cell (World.block_lt_of_cell? w _ hx452_2)).trans hx452_2;replace hx452_3 := (HB.out.cell (World.block_lt_of_cell? w _ hx452_3)).trans hx452_3;replace hx452_4 := (HB.out.cell (World.block_lt_of_cell? w _ hx452_4)).trans hx452_4;replace p452 := eq_true p452;replace q452 := eq_true q452;go_upto_region 13 with (first | ((with_reducible refine gate_dst (N := 6) rfl ?_);refine box_event ?hg (N := 6) ?hd (cs := #[.int .i64 0, .int .i64 0, .int .u8 0, .int .i64 0, .int .i64 0]) (t := 94) ?hr ?_;(case hd => rfl);(case hg => rfl);(case hr => first | (go_simp;done) | (go_simp;rfl));intro gb453 hg w40 hbox hb;have n0_ := am0 (blk_below (g := gb441) (o := .cells #[.slice A0_0 l0_0.length c0_0, .slice A0_1 l0_1.length c0_1, .slice (some ad442) l0_2.length c0_2, .slice A0_3 l0_3.length c0_3] 35 (0,0)) (by (with_reducible repeat (first | refine blk_drewN ?_ _ | refine blk_drew ?_ | refine blk_alloc ?_ _));exact BK441.out) hb);have n1_ := am0 (blk_below (g := gb443) (o := .cells #[.int .i64 ((rd_T94 l0_2 x14_1).f0), .int .i64 ((rd_T94 l0_2 x14_1).f1), .int .u8 ((rd_T94 l0_2 x14_1).f2), .int .i64 ((rd_T94 l0_2 x14_1).f3), .int .i64 ((rd_T94 l0_2 x14_1).f4)] 94 (0,0)) (by (with_reducible repeat (first | refine blk_drewN ?_ _ | refine blk_drew ?_ | refine blk_alloc ?_ _));exact BK443.out) hb);have n2_ := am0 (below_step (by repeat (first | (with_reducible first | exact HB.out | apply below_alloc | apply pw_below_drewN | apply below_drew1 | refine below_set ?_ GE441.out | refine below_set ?_ GE443.out) | exact HB.out)) hb);have n3_ := am0 (hbox);have n4_ := am0 ((by rw [hg];exact (below_size (by repeat (first | (with_reducible first | exact HB.out | apply below_alloc | apply pw_below_drewN | apply below_drew1 | refine below_set ?_ GE441.out | refine below_set ?_ GE443.out) | exact HB.out))) : w.heap.size ≤ gb453));have n5_ := am0 ((by rw [hg];exact (below_size (by repeat (first | (with_reducible first | exact HB.out | apply below_alloc | apply pw_below_drewN | apply below_drew1 | refine below_set ?_ GE441.out | refine below_set ?_ GE443.out) | exact HB.out))) : w.heap.size ≤ gb453));have n6_ := am0 ((by rw [hg];exact Nat.ne_of_lt (blk_lt (g := gb441) (o := .cells #[.slice A0_0 l0_0.length c0_0, .slice A0_1 l0_1.length c0_1, .slice (some ad442) l0_2.length c0_2, .slice A0_3 l0_3.length c0_3] 35 (0,0)) (by (with_reducible repeat (first | refine blk_drewN ?_ _ | refine blk_drew ?_ | refine blk_alloc ?_ _));exact BK441.out)) : gb441 ≠ gb453));have n7_ := am0 ((by rw [hg];exact Nat.ne_of_gt (blk_lt (g := gb441) (o := .cells #[.slice A0_0 l0_0.length c0_0, .slice A0_1 l0_1.length c0_1, .slice (some ad442) l0_2.length c0_2, .slice A0_3 l0_3.length c0_3] 35 (0,0)) (by (with_reducible repeat (first | refine blk_drewN ?_ _ | refine blk_drew ?_ | refine blk_alloc ?_ _));exact BK441.out)) : gb453 ≠ gb441));have n8_ := am0 ((by rw [hg];exact Nat.ne_of_lt (blk_lt (g := gb443) (o := .cells #[.int .i64 ((rd_T94 l0_2 x14_1).f0), .int .i64 ((rd_T94 l0_2 x14_1).f1), .int .u8 ((rd_T94 l0_2 x14_1).f2), .int .i64 ((rd_T94 l0_2 x14_1).f3), .int .i64 ((rd_T94 l0_2 x14_1).f4)] 94 (0,0)) (by (with_reducible repeat (first | refine blk_drewN ?_ _ | refine blk_drew ?_ | refine blk_alloc ?_ _));exact BK443.out)) : gb443 ≠ gb453));have n9_ := am0 ((by rw [hg];exact Nat.ne_of_gt (blk_lt (g := gb443) (o := .cells #[.int .i64 ((rd_T94 l0_2 x14_1).f0), .int .i64 ((rd_T94 l0_2 x14_1).f1), .int .u8 ((rd_T94 l0_2 x14_1).f2), .int .i64 ((rd_T94 l0_2 x14_1).f3), .int .i64 ((rd_T94 l0_2 x14_1).f4)] 94 (0,0)) (by (with_reducible repeat (first | refine blk_drewN ?_ _ | refine blk_drew ?_ | refine blk_alloc ?_ _));exact BK443.out)) : gb453 ≠ gb443));clear BK441;clear BK443;clear HB;have BK441 := n0_;have BK443 := n1_;have HB := n2_;have BK453 := n3_;have GW453 := n4_;have GE453 := n5_;have NB441_453 := n6_;have NB453_441 := n7_;have NB443_453 := n8_;have NB453_443 := n9_;clear n0_ n1_ n2_ n3_ n4_ n5_ n6_ n7_ n8_ n9_;clear hb hbox hg;have hnb41 := NB453_441.out;have hnc41 := NB441_453.out;have hnb42 := NB453_443.out;have hnc42 := NB443_453.out;have hcz43_0 : w40.cell? ⟨gb453,0,none⟩ = some (.int .i64 0) := (blk_cell BK453.out 0).trans rfl;have hcz43_1 : w40.cell? ⟨gb453,1,none⟩ = some (.int .i64 0) := (blk_cell BK453.out 1).trans rfl;have hcz43_2 : w40.cell? ⟨gb453,2,none⟩ = some (.int .u8 0) := (blk_cell BK453.out 2).trans rfl;have hcz43_3 : w40.cell? ⟨gb453,3,none⟩ = some (.int .i64 0) := (blk_cell BK453.out 3).trans rfl;have hcz43_4 : w40.cell? ⟨gb453,4,none⟩ = some (.int .i64 0) := (blk_cell BK453.out 4).trans rfl;have hfz43_0 := blk_frozen BK453.out 0;have hfz43_1 := blk_frozen BK453.out 1;have hfz43_2 := blk_frozen BK453.out 2;have hfz43_3 := blk_frozen BK453.out 3;have hfz43_4 := blk_frozen BK453.out 4))
                (try simp only [Act.put,List.setIfInBounds_toArray,List.set_cons_zero,List.set_cons_succ])
                go_cut [83] (fun v83 wc => ∃ (kq : Nat) (x83_38 : Bool),v83 = .bool x83_38 ∧ Aside0 (elfw_relasMay.j3 kq l0_2 (l0_2.length : Int) x14_1 y448 (y448.length : Int) x55_3 x83_38 l0_0 l0_1 l0_2 l0_3 ((rd_T94 l0_2 x14_1).f0) ((rd_T94 l0_2 x14_1).f1) ((rd_T94 l0_2 x14_1).f2) ((rd_T94 l0_2 x14_1).f3) ((rd_T94 l0_2 x14_1).f4) = some r) ∧ Aside0 (kq ≤ k3) ∧ Aside0 (wc.heap[gb441]? = some (.cells #[(.slice A0_0 l0_0.length c0_0),(.slice A0_1 l0_1.length c0_1),(.slice (some ad442) l0_2.length c0_2),(.slice A0_3 l0_3.length c0_3)] 35 (0,0))) ∧ Aside0 (wc.heap[gb443]? = some (.cells #[.int .i64 ((rd_T94 l0_2 x14_1).f0), .int .i64 ((rd_T94 l0_2 x14_1).f1), .int .u8 ((rd_T94 l0_2 x14_1).f2), .int .i64 ((rd_T94 l0_2 x14_1).f3), .int .i64 ((rd_T94 l0_2 x14_1).f4)] 94 (0,0))) ∧ Aside0 (wc.heap[gb453]? = some (.cells #[.int .i64 ((rd_T94 y448 x55_3).f0), .int .i64 ((rd_T94 y448 x55_3).f1), .int .u8 ((rd_T94 y448 x55_3).f2), .int .i64 ((rd_T94 y448 x55_3).f3), .int .i64 ((rd_T94 y448 x55_3).f4)] 94 (0,0))) ∧ Aside0 (Below w.heap.size w wc))
                case first =>
                 have H := HC39.out;clear HC39
                 by_cases c44 : ((rd_T94 y448 x55_3).f0) > ((rd_T94 l0_2 x14_1).f0)
                 ·rw [if_pos c44] at H
                  have c44b0 : decide (((rd_T94 l0_2 x14_1).f0) < ((rd_T94 y448 x55_3).f0)) = true := decide_eq_true c44;clear c44
                  (first | rw [c44b0] | (simp only [i64_w,i32_w];rw [c44b0]) | skip)
                  have H' := am0 H;clear H;have hnb45 := NB453_441.out;have hnc45 := NB441_453.out;have hnb46 := NB453_443.out;have hnc46 := NB443_453.out;have hcz47_0 : w40.cell? ⟨gb453,0,none⟩ = some (.int .i64 0) := (blk_cell BK453.out 0).trans rfl;have hcz47_1 : w40.cell? ⟨gb453,1,none⟩ = some (.int .i64 0) := (blk_cell BK453.out 1).trans rfl;have hcz47_2 : w40.cell? ⟨gb453,2,none⟩ = some (.int .u8 0) := (blk_cell BK453.out 2).trans rfl;have hcz47_3 : w40.cell? ⟨gb453,3,none⟩ = some (.int .i64 0) := (blk_cell BK453.out 3).trans rfl;have hcz47_4 : w40.cell? ⟨gb453,4,none⟩ = some (.int .i64 0) := (blk_cell BK453.out 4).trans rfl;have hfz47_0 := blk_frozen BK453.out 0;have hfz47_1 := blk_frozen BK453.out 1;have hfz47_2 := blk_frozen BK453.out 2;have hfz47_3 := blk_frozen BK453.out 3;have hfz47_4 := blk_frozen BK453.out 4;have hnb48 := NB443_441.out;have hnc48 := NB441_443.out;have hcz49_0 : w40.cell? ⟨gb443,0,none⟩ = some (.int .i64 ((rd_T94 l0_2 x14_1).f0)) := (blk_cell BK443.out 0).trans rfl;have hcz49_1 : w40.cell? ⟨gb443,1,none⟩ = some (.int .i64 ((rd_T94 l0_2 x14_1).f1)) := (blk_cell BK443.out 1).trans rfl;have hcz49_2 : w40.cell? ⟨gb443,2,none⟩ = some (.int .u8 ((rd_T94 l0_2 x14_1).f2)) := (blk_cell BK443.out 2).trans rfl;have hcz49_3 : w40.cell? ⟨gb443,3,none⟩ = some (.int .i64 ((rd_T94 l0_2 x14_1).f3)) := (blk_cell BK443.out 3).trans rfl;have hcz49_4 : w40.cell? ⟨gb443,4,none⟩ = some (.int .i64 ((rd_T94 l0_2 x14_1).f4)) := (blk_cell BK443.out 4).trans rfl;have hfz49_0 := blk_frozen BK443.out 0;have hfz49_1 := blk_frozen BK443.out 1;have hfz49_2 := blk_frozen BK443.out 2;have hfz49_3 := blk_frozen BK443.out 3;have hfz49_4 := blk_frozen BK443.out 4;go_wp2
                  go_meet
                  case rel => exact ⟨_,(true),(by first | rfl | (simp;done) | (simp [*];done)),H',⟨by have := HK1.out;have := HJ11.out;have := HK3.out;first | omega | exact Nat.le_refl _⟩,⟨by (with_reducible repeat (first | refine blk_drewN ?_ _ | refine blk_drew ?_ | refine blk_alloc ?_ _));refine blk_far ?_ NB441_453.out _;(with_reducible repeat (first | refine blk_drewN ?_ _ | refine blk_drew ?_ | refine blk_alloc ?_ _));refine blk_far ?_ NB441_453.out _;(with_reducible repeat (first | refine blk_drewN ?_ _ | refine blk_drew ?_ | refine blk_alloc ?_ _));refine blk_far ?_ NB441_453.out _;(with_reducible repeat (first | refine blk_drewN ?_ _ | refine blk_drew ?_ | refine blk_alloc ?_ _));refine blk_far ?_ NB441_453.out _;(with_reducible repeat (first | refine blk_drewN ?_ _ | refine blk_drew ?_ | refine blk_alloc ?_ _));refine blk_far ?_ NB441_453.out _;(with_reducible repeat (first | refine blk_drewN ?_ _ | refine blk_drew ?_ | refine blk_alloc ?_ _));exact BK441.out⟩,⟨by (with_reducible repeat (first | refine blk_drewN ?_ _ | refine blk_drew ?_ | refine blk_alloc ?_ _));refine blk_far ?_ NB443_453.out _;(with_reducible repeat (first | refine blk_drewN ?_ _ | refine blk_drew ?_ | refine blk_alloc ?_ _));refine blk_far ?_ NB443_453.out _;(with_reducible repeat (first | refine blk_drewN ?_ _ | refine blk_drew ?_ | refine blk_alloc ?_ _));refine blk_far ?_ NB443_453.out _;(with_reducible repeat (first | refine blk_drewN ?_ _ | refine blk_drew ?_ | refine blk_alloc ?_ _));refine blk_far ?_ NB443_453.out _;(with_reducible repeat (first | refine blk_drewN ?_ _ | refine blk_drew ?_ | refine blk_alloc ?_ _));refine blk_far ?_ NB443_453.out _;(with_reducible repeat (first | refine blk_drewN ?_ _ | refine blk_drew ?_ | refine blk_alloc ?_ _));exact BK443.out⟩,⟨by (with_reducible repeat (first | refine blk_drewN ?_ _ | refine blk_drew ?_ | refine blk_alloc ?_ _));refine blk_put (cs := #[.int .i64 ((rd_T94 y448 x55_3).f0), .int .i64 ((rd_T94 y448 x55_3).f1), .int .u8 ((rd_T94 y448 x55_3).f2), .int .i64 ((rd_T94 y448 x55_3).f3), .int .i64 0]) ?_ 4 _ rfl;(with_reducible repeat (first | refine blk_drewN ?_ _ | refine blk_drew ?_ | refine blk_alloc ?_ _));refine blk_put (cs := #[.int .i64 ((rd_T94 y448 x55_3).f0), .int .i64 ((rd_T94 y448 x55_3).f1), .int .u8 ((rd_T94 y448 x55_3).f2), .int .i64 0, .int .i64 0]) ?_ 3 _ rfl;(with_reducible repeat (first | refine blk_drewN ?_ _ | refine blk_drew ?_ | refine blk_alloc ?_ _));refine blk_put (cs := #[.int .i64 ((rd_T94 y448 x55_3).f0), .int .i64 ((rd_T94 y448 x55_3).f1), .int .u8 0, .int .i64 0, .int .i64 0]) ?_ 2 _ rfl;(with_reducible repeat (first | refine blk_drewN ?_ _ | refine blk_drew ?_ | refine blk_alloc ?_ _));refine blk_put (cs := #[.int .i64 ((rd_T94 y448 x55_3).f0), .int .i64 0, .int .u8 0, .int .i64 0, .int .i64 0]) ?_ 1 _ rfl;(with_reducible repeat (first | refine blk_drewN ?_ _ | refine blk_drew ?_ | refine blk_alloc ?_ _));refine blk_put (cs := #[.int .i64 0, .int .i64 0, .int .u8 0, .int .i64 0, .int .i64 0]) ?_ 0 _ rfl;(with_reducible repeat (first | refine blk_drewN ?_ _ | refine blk_drew ?_ | refine blk_alloc ?_ _));exact BK453.out⟩,⟨by repeat (first | (with_reducible first | exact HB.out | apply below_alloc | apply pw_below_drewN | apply below_drew1 | refine below_set ?_ GE441.out | refine below_set ?_ GE443.out | refine below_set ?_ GE453.out) | exact HB.out)⟩⟩
                 rw [if_neg c44] at H;have c44b0 : decide (((rd_T94 l0_2 x14_1).f0) < ((rd_T94 y448 x55_3).f0)) = false := decide_eq_false c44;clear c44
                 (first | rw [c44b0] | (simp only [i64_w,i32_w];rw [c44b0]) | skip)
                 by_cases c50 : ((rd_T94 y448 x55_3).f0) = ((rd_T94 l0_2 x14_1).f0)
                 ·rw [if_pos c50] at H
                  have c50b0 : (((rd_T94 y448 x55_3).f0) == ((rd_T94 l0_2 x14_1).f0)) = true := beq_iff_eq.mpr c50;have c50b1 : (((rd_T94 y448 x55_3).f0) != ((rd_T94 l0_2 x14_1).f0)) = false := bne_eq_false_iff_eq.mpr c50;clear c50
                  by_cases c51 : ((rd_T94 y448 x55_3).f1) > ((rd_T94 l0_2 x14_1).f1)
                  ·rw [if_pos c51] at H
                   have c51b0 : decide (((rd_T94 l0_2 x14_1).f1) < ((rd_T94 y448 x55_3).f1)) = true := decide_eq_true c51;clear c51;have H' := am0 H;clear H;have hnb52 := NB453_441.out;have hnc52 := NB441_453.out;have hnb53 := NB453_443.out;have hnc53 := NB443_453.out;have hcz54_0 : w40.cell? ⟨gb453,0,none⟩ = some (.int .i64 0) := (blk_cell BK453.out 0).trans rfl;have hcz54_1 : w40.cell? ⟨gb453,1,none⟩ = some (.int .i64 0) := (blk_cell BK453.out 1).trans rfl;have hcz54_2 : w40.cell? ⟨gb453,2,none⟩ = some (.int .u8 0) := (blk_cell BK453.out 2).trans rfl;have hcz54_3 : w40.cell? ⟨gb453,3,none⟩ = some (.int .i64 0) := (blk_cell BK453.out 3).trans rfl;have hcz54_4 : w40.cell? ⟨gb453,4,none⟩ = some (.int .i64 0) := (blk_cell BK453.out 4).trans rfl;have hfz54_0 := blk_frozen BK453.out 0;have hfz54_1 := blk_frozen BK453.out 1;have hfz54_2 := blk_frozen BK453.out 2;have hfz54_3 := blk_frozen BK453.out 3;have hfz54_4 := blk_frozen BK453.out 4;have hnb55 := NB443_441.out;have hnc55 := NB441_443.out;have hcz56_0 : w40.cell? ⟨gb443,0,none⟩ = some (.int .i64 ((rd_T94 l0_2 x14_1).f0)) := (blk_cell BK443.out 0).trans rfl;have hcz56_1 : w40.cell? ⟨gb443,1,none⟩ = some (.int .i64 ((rd_T94 l0_2 x14_1).f1)) := (blk_cell BK443.out 1).trans rfl;have hcz56_2 : w40.cell? ⟨gb443,2,none⟩ = some (.int .u8 ((rd_T94 l0_2 x14_1).f2)) := (blk_cell BK443.out 2).trans rfl;have hcz56_3 : w40.cell? ⟨gb443,3,none⟩ = some (.int .i64 ((rd_T94 l0_2 x14_1).f3)) := (blk_cell BK443.out 3).trans rfl;have hcz56_4 : w40.cell? ⟨gb443,4,none⟩ = some (.int .i64 ((rd_T94 l0_2 x14_1).f4)) := (blk_cell BK443.out 4).trans rfl;have hfz56_0 := blk_frozen BK443.out 0;have hfz56_1 := blk_frozen BK443.out 1;have hfz56_2 := blk_frozen BK443.out 2;have hfz56_3 := blk_frozen BK443.out 3;have hfz56_4 := blk_frozen BK443.out 4;go_wp2
                   go_meet
                   case rel => exact ⟨_,(true),(by first | rfl | (simp;done) | (simp [*];done)),H',⟨by have := HK1.out;have := HJ11.out;have := HK3.out;first | omega | exact Nat.le_refl _⟩,⟨by (with_reducible repeat (first | refine blk_drewN ?_ _ | refine blk_drew ?_ | refine blk_alloc ?_ _));refine blk_far ?_ NB441_453.out _;(with_reducible repeat (first | refine blk_drewN ?_ _ | refine blk_drew ?_ | refine blk_alloc ?_ _));refine blk_far ?_ NB441_453.out _;(with_reducible repeat (first | refine blk_drewN ?_ _ | refine blk_drew ?_ | refine blk_alloc ?_ _));refine blk_far ?_ NB441_453.out _;(with_reducible repeat (first | refine blk_drewN ?_ _ | refine blk_drew ?_ | refine blk_alloc ?_ _));refine blk_far ?_ NB441_453.out _;(with_reducible repeat (first | refine blk_drewN ?_ _ | refine blk_drew ?_ | refine blk_alloc ?_ _));refine blk_far ?_ NB441_453.out _;(with_reducible repeat (first | refine blk_drewN ?_ _ | refine blk_drew ?_ | refine blk_alloc ?_ _));exact BK441.out⟩,⟨by (with_reducible repeat (first | refine blk_drewN ?_ _ | refine blk_drew ?_ | refine blk_alloc ?_ _));refine blk_far ?_ NB443_453.out _;(with_reducible repeat (first | refine blk_drewN ?_ _ | refine blk_drew ?_ | refine blk_alloc ?_ _));refine blk_far ?_ NB443_453.out _;(with_reducible repeat (first | refine blk_drewN ?_ _ | refine blk_drew ?_ | refine blk_alloc ?_ _));refine blk_far ?_ NB443_453.out _;(with_reducible repeat (first | refine blk_drewN ?_ _ | refine blk_drew ?_ | refine blk_alloc ?_ _));refine blk_far ?_ NB443_453.out _;(with_reducible repeat (first | refine blk_drewN ?_ _ | refine blk_drew ?_ | refine blk_alloc ?_ _));refine blk_far ?_ NB443_453.out _;(with_reducible repeat (first | refine blk_drewN ?_ _ | refine blk_drew ?_ | refine blk_alloc ?_ _));exact BK443.out⟩,⟨by (with_reducible repeat (first | refine blk_drewN ?_ _ | refine blk_drew ?_ | refine blk_alloc ?_ _));refine blk_put (cs := #[.int .i64 ((rd_T94 y448 x55_3).f0), .int .i64 ((rd_T94 y448 x55_3).f1), .int .u8 ((rd_T94 y448 x55_3).f2), .int .i64 ((rd_T94 y448 x55_3).f3), .int .i64 0]) ?_ 4 _ rfl;(with_reducible repeat (first | refine blk_drewN ?_ _ | refine blk_drew ?_ | refine blk_alloc ?_ _));refine blk_put (cs := #[.int .i64 ((rd_T94 y448 x55_3).f0), .int .i64 ((rd_T94 y448 x55_3).f1), .int .u8 ((rd_T94 y448 x55_3).f2), .int .i64 0, .int .i64 0]) ?_ 3 _ rfl;(with_reducible repeat (first | refine blk_drewN ?_ _ | refine blk_drew ?_ | refine blk_alloc ?_ _));refine blk_put (cs := #[.int .i64 ((rd_T94 y448 x55_3).f0), .int .i64 ((rd_T94 y448 x55_3).f1), .int .u8 0, .int .i64 0, .int .i64 0]) ?_ 2 _ rfl;(with_reducible repeat (first | refine blk_drewN ?_ _ | refine blk_drew ?_ | refine blk_alloc ?_ _));refine blk_put (cs := #[.int .i64 ((rd_T94 y448 x55_3).f0), .int .i64 0, .int .u8 0, .int .i64 0, .int .i64 0]) ?_ 1 _ rfl;(with_reducible repeat (first | refine blk_drewN ?_ _ | refine blk_drew ?_ | refine blk_alloc ?_ _));refine blk_put (cs := #[.int .i64 0, .int .i64 0, .int .u8 0, .int .i64 0, .int .i64 0]) ?_ 0 _ rfl;(with_reducible repeat (first | refine blk_drewN ?_ _ | refine blk_drew ?_ | refine blk_alloc ?_ _));exact BK453.out⟩,⟨by repeat (first | (with_reducible first | exact HB.out | apply below_alloc | apply pw_below_drewN | apply below_drew1 | refine below_set ?_ GE441.out | refine below_set ?_ GE443.out | refine below_set ?_ GE453.out) | exact HB.out)⟩⟩
                  rw [if_neg c51] at H;have c51b0 : decide (((rd_T94 l0_2 x14_1).f1) < ((rd_T94 y448 x55_3).f1)) = false := decide_eq_false c51;clear c51;replace H := Option.bind_eq_some_iff.mp H;obtain ⟨t454,A570,H⟩ := H;replace H : (elfw_relasMay.j3 k3 l0_2 (l0_2.length : Int) x14_1 y448 (y448.length : Int) x55_3 (!t454) l0_0 l0_1 l0_2 l0_3 ((rd_T94 l0_2 x14_1).f0) ((rd_T94 l0_2 x14_1).f1) ((rd_T94 l0_2 x14_1).f2) ((rd_T94 l0_2 x14_1).f3) ((rd_T94 l0_2 x14_1).f4)) = some r := H;have A57 := am0 A570;clear A570;have H' := am0 H;clear H;have hnb58 := NB453_441.out;have hnc58 := NB441_453.out;have hnb59 := NB453_443.out;have hnc59 := NB443_453.out;have hcz60_0 : w40.cell? ⟨gb453,0,none⟩ = some (.int .i64 0) := (blk_cell BK453.out 0).trans rfl;have hcz60_1 : w40.cell? ⟨gb453,1,none⟩ = some (.int .i64 0) := (blk_cell BK453.out 1).trans rfl;have hcz60_2 : w40.cell? ⟨gb453,2,none⟩ = some (.int .u8 0) := (blk_cell BK453.out 2).trans rfl;have hcz60_3 : w40.cell? ⟨gb453,3,none⟩ = some (.int .i64 0) := (blk_cell BK453.out 3).trans rfl;have hcz60_4 : w40.cell? ⟨gb453,4,none⟩ = some (.int .i64 0) := (blk_cell BK453.out 4).trans rfl;have hfz60_0 := blk_frozen BK453.out 0;have hfz60_1 := blk_frozen BK453.out 1;have hfz60_2 := blk_frozen BK453.out 2;have hfz60_3 := blk_frozen BK453.out 3;have hfz60_4 := blk_frozen BK453.out 4;have hnb61 := NB443_441.out;have hnc61 := NB441_443.out;have hcz62_0 : w40.cell? ⟨gb443,0,none⟩ = some (.int .i64 ((rd_T94 l0_2 x14_1).f0)) := (blk_cell BK443.out 0).trans rfl;have hcz62_1 : w40.cell? ⟨gb443,1,none⟩ = some (.int .i64 ((rd_T94 l0_2 x14_1).f1)) := (blk_cell BK443.out 1).trans rfl;have hcz62_2 : w40.cell? ⟨gb443,2,none⟩ = some (.int .u8 ((rd_T94 l0_2 x14_1).f2)) := (blk_cell BK443.out 2).trans rfl;have hcz62_3 : w40.cell? ⟨gb443,3,none⟩ = some (.int .i64 ((rd_T94 l0_2 x14_1).f3)) := (blk_cell BK443.out 3).trans rfl;have hcz62_4 : w40.cell? ⟨gb443,4,none⟩ = some (.int .i64 ((rd_T94 l0_2 x14_1).f4)) := (blk_cell BK443.out 4).trans rfl;have hfz62_0 := blk_frozen BK443.out 0;have hfz62_1 := blk_frozen BK443.out 1;have hfz62_2 := blk_frozen BK443.out 2;have hfz62_3 := blk_frozen BK443.out 3;have hfz62_4 := blk_frozen BK443.out 4;go_wp2_with (first | (go_at_call 48;(with_reducible refine (elfw_apart.calls k3 ((rd_T94 y448 x55_3).f0) ((rd_T94 y448 x55_3).f1) ((rd_T94 y448 x55_3).f2) ((rd_T94 y448 x55_3).f3) ((rd_T94 y448 x55_3).f4) ((rd_T94 l0_2 x14_1).f0) ((rd_T94 l0_2 x14_1).f1) ((rd_T94 l0_2 x14_1).f2) ((rd_T94 l0_2 x14_1).f3) ((rd_T94 l0_2 x14_1).f4) t454 _ A57.out).mono ?_);rintro e w63 ⟨rfl,hb⟩;have n0_ := am0 (blk_below (g := gb441) (o := .cells #[.slice A0_0 l0_0.length c0_0, .slice A0_1 l0_1.length c0_1, .slice (some ad442) l0_2.length c0_2, .slice A0_3 l0_3.length c0_3] 35 (0,0)) (by (with_reducible repeat (first | refine blk_drewN ?_ _ | refine blk_drew ?_ | refine blk_alloc ?_ _));refine blk_far ?_ NB441_453.out _;(with_reducible repeat (first | refine blk_drewN ?_ _ | refine blk_drew ?_ | refine blk_alloc ?_ _));refine blk_far ?_ NB441_453.out _;(with_reducible repeat (first | refine blk_drewN ?_ _ | refine blk_drew ?_ | refine blk_alloc ?_ _));refine blk_far ?_ NB441_453.out _;(with_reducible repeat (first | refine blk_drewN ?_ _ | refine blk_drew ?_ | refine blk_alloc ?_ _));refine blk_far ?_ NB441_453.out _;(with_reducible repeat (first | refine blk_drewN ?_ _ | refine blk_drew ?_ | refine blk_alloc ?_ _));refine blk_far ?_ NB441_453.out _;(with_reducible repeat (first | refine blk_drewN ?_ _ | refine blk_drew ?_ | refine blk_alloc ?_ _));exact BK441.out) hb);have n1_ := am0 (blk_below (g := gb443) (o := .cells #[.int .i64 ((rd_T94 l0_2 x14_1).f0), .int .i64 ((rd_T94 l0_2 x14_1).f1), .int .u8 ((rd_T94 l0_2 x14_1).f2), .int .i64 ((rd_T94 l0_2 x14_1).f3), .int .i64 ((rd_T94 l0_2 x14_1).f4)] 94 (0,0)) (by (with_reducible repeat (first | refine blk_drewN ?_ _ | refine blk_drew ?_ | refine blk_alloc ?_ _));refine blk_far ?_ NB443_453.out _;(with_reducible repeat (first | refine blk_drewN ?_ _ | refine blk_drew ?_ | refine blk_alloc ?_ _));refine blk_far ?_ NB443_453.out _;(with_reducible repeat (first | refine blk_drewN ?_ _ | refine blk_drew ?_ | refine blk_alloc ?_ _));refine blk_far ?_ NB443_453.out _;(with_reducible repeat (first | refine blk_drewN ?_ _ | refine blk_drew ?_ | refine blk_alloc ?_ _));refine blk_far ?_ NB443_453.out _;(with_reducible repeat (first | refine blk_drewN ?_ _ | refine blk_drew ?_ | refine blk_alloc ?_ _));refine blk_far ?_ NB443_453.out _;(with_reducible repeat (first | refine blk_drewN ?_ _ | refine blk_drew ?_ | refine blk_alloc ?_ _));exact BK443.out) hb);have n2_ := am0 (blk_below (g := gb453) (o := .cells #[.int .i64 ((rd_T94 y448 x55_3).f0), .int .i64 ((rd_T94 y448 x55_3).f1), .int .u8 ((rd_T94 y448 x55_3).f2), .int .i64 ((rd_T94 y448 x55_3).f3), .int .i64 ((rd_T94 y448 x55_3).f4)] 94 (0,0)) (by (with_reducible repeat (first | refine blk_drewN ?_ _ | refine blk_drew ?_ | refine blk_alloc ?_ _));refine blk_put (cs := #[.int .i64 ((rd_T94 y448 x55_3).f0), .int .i64 ((rd_T94 y448 x55_3).f1), .int .u8 ((rd_T94 y448 x55_3).f2), .int .i64 ((rd_T94 y448 x55_3).f3), .int .i64 0]) ?_ 4 _ rfl;(with_reducible repeat (first | refine blk_drewN ?_ _ | refine blk_drew ?_ | refine blk_alloc ?_ _));refine blk_put (cs := #[.int .i64 ((rd_T94 y448 x55_3).f0), .int .i64 ((rd_T94 y448 x55_3).f1), .int .u8 ((rd_T94 y448 x55_3).f2), .int .i64 0, .int .i64 0]) ?_ 3 _ rfl;(with_reducible repeat (first | refine blk_drewN ?_ _ | refine blk_drew ?_ | refine blk_alloc ?_ _));refine blk_put (cs := #[.int .i64 ((rd_T94 y448 x55_3).f0), .int .i64 ((rd_T94 y448 x55_3).f1), .int .u8 0, .int .i64 0, .int .i64 0]) ?_ 2 _ rfl;(with_reducible repeat (first | refine blk_drewN ?_ _ | refine blk_drew ?_ | refine blk_alloc ?_ _));refine blk_put (cs := #[.int .i64 ((rd_T94 y448 x55_3).f0), .int .i64 0, .int .u8 0, .int .i64 0, .int .i64 0]) ?_ 1 _ rfl;(with_reducible repeat (first | refine blk_drewN ?_ _ | refine blk_drew ?_ | refine blk_alloc ?_ _));refine blk_put (cs := #[.int .i64 0, .int .i64 0, .int .u8 0, .int .i64 0, .int .i64 0]) ?_ 0 _ rfl;(with_reducible repeat (first | refine blk_drewN ?_ _ | refine blk_drew ?_ | refine blk_alloc ?_ _));exact BK453.out) hb);have n3_ := am0 (below_step (by repeat (first | (with_reducible first | exact HB.out | apply below_alloc | apply pw_below_drewN | apply below_drew1 | refine below_set ?_ GE441.out | refine below_set ?_ GE443.out | refine below_set ?_ GE453.out) | exact HB.out)) hb);clear BK441;clear BK443;clear BK453;clear HB;have BK441 := n0_;have BK443 := n1_;have BK453 := n2_;have HB := n3_;clear n0_ n1_ n2_ n3_;(try clear hb);(try clear hb2);(try clear hk);(try clear hi)))
                  go_meet
                  case rel => exact ⟨_,(!t454),(by first | rfl | (simp;done) | (simp [*];done)),H',⟨by have := HK1.out;have := HJ11.out;have := HK3.out;first | omega | exact Nat.le_refl _⟩,⟨by (with_reducible repeat (first | refine blk_drewN ?_ _ | refine blk_drew ?_ | refine blk_alloc ?_ _));exact BK441.out⟩,⟨by (with_reducible repeat (first | refine blk_drewN ?_ _ | refine blk_drew ?_ | refine blk_alloc ?_ _));exact BK443.out⟩,⟨by (with_reducible repeat (first | refine blk_drewN ?_ _ | refine blk_drew ?_ | refine blk_alloc ?_ _));exact BK453.out⟩,⟨by repeat (first | (with_reducible first | exact HB.out | apply below_alloc | apply pw_below_drewN | apply below_drew1 | refine below_set ?_ GE441.out | refine below_set ?_ GE443.out | refine below_set ?_ GE453.out) | exact HB.out)⟩⟩
                 rw [if_neg c50] at H;have c50b0 : (((rd_T94 y448 x55_3).f0) == ((rd_T94 l0_2 x14_1).f0)) = false := beq_eq_false_iff_ne.mpr c50;have c50b1 : (((rd_T94 y448 x55_3).f0) != ((rd_T94 l0_2 x14_1).f0)) = true := bne_iff_ne.mpr c50;have H' := am0 H;clear H;have hnb64 := NB453_441.out;have hnc64 := NB441_453.out;have hnb65 := NB453_443.out;have hnc65 := NB443_453.out;have hcz66_0 : w40.cell? ⟨gb453,0,none⟩ = some (.int .i64 0) := (blk_cell BK453.out 0).trans rfl;have hcz66_1 : w40.cell? ⟨gb453,1,none⟩ = some (.int .i64 0) := (blk_cell BK453.out 1).trans rfl;have hcz66_2 : w40.cell? ⟨gb453,2,none⟩ = some (.int .u8 0) := (blk_cell BK453.out 2).trans rfl;have hcz66_3 : w40.cell? ⟨gb453,3,none⟩ = some (.int .i64 0) := (blk_cell BK453.out 3).trans rfl;have hcz66_4 : w40.cell? ⟨gb453,4,none⟩ = some (.int .i64 0) := (blk_cell BK453.out 4).trans rfl;have hfz66_0 := blk_frozen BK453.out 0;have hfz66_1 := blk_frozen BK453.out 1;have hfz66_2 := blk_frozen BK453.out 2;have hfz66_3 := blk_frozen BK453.out 3;have hfz66_4 := blk_frozen BK453.out 4;have hnb67 := NB443_441.out;have hnc67 := NB441_443.out;have hcz68_0 : w40.cell? ⟨gb443,0,none⟩ = some (.int .i64 ((rd_T94 l0_2 x14_1).f0)) := (blk_cell BK443.out 0).trans rfl;have hcz68_1 : w40.cell? ⟨gb443,1,none⟩ = some (.int .i64 ((rd_T94 l0_2 x14_1).f1)) := (blk_cell BK443.out 1).trans rfl;have hcz68_2 : w40.cell? ⟨gb443,2,none⟩ = some (.int .u8 ((rd_T94 l0_2 x14_1).f2)) := (blk_cell BK443.out 2).trans rfl;have hcz68_3 : w40.cell? ⟨gb443,3,none⟩ = some (.int .i64 ((rd_T94 l0_2 x14_1).f3)) := (blk_cell BK443.out 3).trans rfl;have hcz68_4 : w40.cell? ⟨gb443,4,none⟩ = some (.int .i64 ((rd_T94 l0_2 x14_1).f4)) := (blk_cell BK443.out 4).trans rfl;have hfz68_0 := blk_frozen BK443.out 0;have hfz68_1 := blk_frozen BK443.out 1;have hfz68_2 := blk_frozen BK443.out 2;have hfz68_3 := blk_frozen BK443.out 3;have hfz68_4 := blk_frozen BK443.out 4;go_wp2
                 go_meet
                 case rel => exact ⟨_,(false),(by first | rfl | (simp;done) | (simp [*];done)),H',⟨by have := HK1.out;have := HJ11.out;have := HK3.out;first | omega | exact Nat.le_refl _⟩,⟨by (with_reducible repeat (first | refine blk_drewN ?_ _ | refine blk_drew ?_ | refine blk_alloc ?_ _));refine blk_far ?_ NB441_453.out _;(with_reducible repeat (first | refine blk_drewN ?_ _ | refine blk_drew ?_ | refine blk_alloc ?_ _));refine blk_far ?_ NB441_453.out _;(with_reducible repeat (first | refine blk_drewN ?_ _ | refine blk_drew ?_ | refine blk_alloc ?_ _));refine blk_far ?_ NB441_453.out _;(with_reducible repeat (first | refine blk_drewN ?_ _ | refine blk_drew ?_ | refine blk_alloc ?_ _));refine blk_far ?_ NB441_453.out _;(with_reducible repeat (first | refine blk_drewN ?_ _ | refine blk_drew ?_ | refine blk_alloc ?_ _));refine blk_far ?_ NB441_453.out _;(with_reducible repeat (first | refine blk_drewN ?_ _ | refine blk_drew ?_ | refine blk_alloc ?_ _));exact BK441.out⟩,⟨by (with_reducible repeat (first | refine blk_drewN ?_ _ | refine blk_drew ?_ | refine blk_alloc ?_ _));refine blk_far ?_ NB443_453.out _;(with_reducible repeat (first | refine blk_drewN ?_ _ | refine blk_drew ?_ | refine blk_alloc ?_ _));refine blk_far ?_ NB443_453.out _;(with_reducible repeat (first | refine blk_drewN ?_ _ | refine blk_drew ?_ | refine blk_alloc ?_ _));refine blk_far ?_ NB443_453.out _;(with_reducible repeat (first | refine blk_drewN ?_ _ | refine blk_drew ?_ | refine blk_alloc ?_ _));refine blk_far ?_ NB443_453.out _;(with_reducible repeat (first | refine blk_drewN ?_ _ | refine blk_drew ?_ | refine blk_alloc ?_ _));refine blk_far ?_ NB443_453.out _;(with_reducible repeat (first | refine blk_drewN ?_ _ | refine blk_drew ?_ | refine blk_alloc ?_ _));exact BK443.out⟩,⟨by (with_reducible repeat (first | refine blk_drewN ?_ _ | refine blk_drew ?_ | refine blk_alloc ?_ _));refine blk_put (cs := #[.int .i64 ((rd_T94 y448 x55_3).f0), .int .i64 ((rd_T94 y448 x55_3).f1), .int .u8 ((rd_T94 y448 x55_3).f2), .int .i64 ((rd_T94 y448 x55_3).f3), .int .i64 0]) ?_ 4 _ rfl;(with_reducible repeat (first | refine blk_drewN ?_ _ | refine blk_drew ?_ | refine blk_alloc ?_ _));refine blk_put (cs := #[.int .i64 ((rd_T94 y448 x55_3).f0), .int .i64 ((rd_T94 y448 x55_3).f1), .int .u8 ((rd_T94 y448 x55_3).f2), .int .i64 0, .int .i64 0]) ?_ 3 _ rfl;(with_reducible repeat (first | refine blk_drewN ?_ _ | refine blk_drew ?_ | refine blk_alloc ?_ _));refine blk_put (cs := #[.int .i64 ((rd_T94 y448 x55_3).f0), .int .i64 ((rd_T94 y448 x55_3).f1), .int .u8 0, .int .i64 0, .int .i64 0]) ?_ 2 _ rfl;(with_reducible repeat (first | refine blk_drewN ?_ _ | refine blk_drew ?_ | refine blk_alloc ?_ _));refine blk_put (cs := #[.int .i64 ((rd_T94 y448 x55_3).f0), .int .i64 0, .int .u8 0, .int .i64 0, .int .i64 0]) ?_ 1 _ rfl;(with_reducible repeat (first | refine blk_drewN ?_ _ | refine blk_drew ?_ | refine blk_alloc ?_ _));refine blk_put (cs := #[.int .i64 0, .int .i64 0, .int .u8 0, .int .i64 0, .int .i64 0]) ?_ 0 _ rfl;(with_reducible repeat (first | refine blk_drewN ?_ _ | refine blk_drew ?_ | refine blk_alloc ?_ _));exact BK453.out⟩,⟨by repeat (first | (with_reducible first | exact HB.out | apply below_alloc | apply pw_below_drewN | apply below_drew1 | refine below_set ?_ GE441.out | refine below_set ?_ GE443.out | refine below_set ?_ GE453.out) | exact HB.out)⟩⟩
                case rest =>
                 clear HC39;try clear c1
                 try clear c2
                 try clear c2b0
                 try clear c2b1
                 try clear p2
                 try clear c3
                 try clear q3
                 try clear c4
                 try clear p4
                 try clear q4
                 try clear hx4
                 try clear c5
                 try clear c6
                 try clear p6
                 try clear c7
                 try clear c7b0
                 try clear c8
                 try clear c8b0
                 try clear c9
                 try clear c9b0
                 try clear c11
                 try clear c11b0
                 try clear c11b1
                 try clear c14
                 try clear c18
                 try clear c18b0
                 try clear c18b1
                 try clear c20
                 try clear c20b0
                 try clear c21
                 try clear c21b0
                 try clear c22
                 try clear c22b0
                 try clear c22b1
                 try clear c23
                 try clear c23b0
                 try clear c23b1
                 try clear c24
                 try clear c24b0
                 try clear c24b1
                 try clear c30
                 try clear c31
                 try clear c31b0
                 try clear c31b1
                 try clear c32
                 try clear c32b0
                 try clear c32b1
                 try clear c33
                 try clear q35
                 try clear c36
                 try clear c36b0
                 try clear c37
                 try clear c37b0
                 try clear c38
                 try clear c38b0
                 try clear c41
                 try clear c42
                 try clear c44
                 try clear c44b0
                 try clear p44
                 try clear q44
                 try clear hx44
                 try clear c45
                 try clear p45
                 try clear q45
                 try clear hx45
                 try clear c46
                 try clear c48
                 try clear c50
                 try clear c50b0
                 try clear c50b1
                 try clear c51
                 try clear c51b0
                 try clear c52
                 try clear c53
                 try clear c55
                 try clear c58
                 try clear c59
                 try clear c61
                 try clear c64
                 try clear c65
                 try clear c67
                 try clear hcz15_0
                 try clear hcz15_1
                 try clear hcz15_2
                 try clear hcz15_3
                 try clear hcz15_4
                 try clear hcz16_0
                 try clear hcz16_1
                 try clear hcz16_2
                 try clear hcz16_3
                 try clear hcz34_0
                 try clear hcz34_1
                 try clear hcz34_2
                 try clear hcz34_3
                 try clear hcz43_0
                 try clear hcz43_1
                 try clear hcz43_2
                 try clear hcz43_3
                 try clear hcz43_4
                 try clear hcz47_0
                 try clear hcz47_1
                 try clear hcz47_2
                 try clear hcz47_3
                 try clear hcz47_4
                 try clear hcz49_0
                 try clear hcz49_1
                 try clear hcz49_2
                 try clear hcz49_3
                 try clear hcz49_4
                 try clear hcz4_0
                 try clear hcz4_1
                 try clear hcz4_2
                 try clear hcz4_3
                 try clear hcz54_0
                 try clear hcz54_1
                 try clear hcz54_2
                 try clear hcz54_3
                 try clear hcz54_4
                 try clear hcz56_0
                 try clear hcz56_1
                 try clear hcz56_2
                 try clear hcz56_3
                 try clear hcz56_4
                 try clear hcz60_0
                 try clear hcz60_1
                 try clear hcz60_2
                 try clear hcz60_3
                 try clear hcz60_4
                 try clear hcz62_0
                 try clear hcz62_1
                 try clear hcz62_2
                 try clear hcz62_3
                 try clear hcz62_4
                 try clear hcz66_0
                 try clear hcz66_1
                 try clear hcz66_2
                 try clear hcz66_3
                 try clear hcz66_4
                 try clear hcz68_0
                 try clear hcz68_1
                 try clear hcz68_2
                 try clear hcz68_3
                 try clear hcz68_4
                 try clear hcz6_0
                 try clear hcz6_1
                 try clear hcz6_2
                 try clear hcz6_3
                 try clear hfz15_0
                 try clear hfz15_1
                 try clear hfz15_2
                 try clear hfz15_3
                 try clear hfz15_4
                 try clear hfz16_0
                 try clear hfz16_1
                 try clear hfz16_2
                 try clear hfz16_3
                 try clear hfz34_0
                 try clear hfz34_1
                 try clear hfz34_2
                 try clear hfz34_3
                 try clear hfz43_0
                 try clear hfz43_1
                 try clear hfz43_2
                 try clear hfz43_3
                 try clear hfz43_4
                 try clear hfz47_0
                 try clear hfz47_1
                 try clear hfz47_2
                 try clear hfz47_3
                 try clear hfz47_4
                 try clear hfz49_0
                 try clear hfz49_1
                 try clear hfz49_2
                 try clear hfz49_3
                 try clear hfz49_4
                 try clear hfz4_0
                 try clear hfz4_1
                 try clear hfz4_2
                 try clear hfz4_3
                 try clear hfz54_0
                 try clear hfz54_1
                 try clear hfz54_2
                 try clear hfz54_3
                 try clear hfz54_4
                 try clear hfz56_0
                 try clear hfz56_1
                 try clear hfz56_2
                 try clear hfz56_3
                 try clear hfz56_4
                 try clear hfz60_0
                 try clear hfz60_1
                 try clear hfz60_2
                 try clear hfz60_3
                 try clear hfz60_4
                 try clear hfz62_0
                 try clear hfz62_1
                 try clear hfz62_2
                 try clear hfz62_3
                 try clear hfz62_4
                 try clear hfz66_0
                 try clear hfz66_1
                 try clear hfz66_2
                 try clear hfz66_3
                 try clear hfz66_4
                 try clear hfz68_0
                 try clear hfz68_1
                 try clear hfz68_2
                 try clear hfz68_3
                 try clear hfz68_4
                 try clear hfz6_0
                 try clear hfz6_1
                 try clear hfz6_2
                 try clear hfz6_3
                 try clear hx442_0
                 try clear hx442_1
                 try clear hx442_2
                 try clear hx442_3
                 try clear hx442_4
                 try clear hx445_0
                 try clear hx445_1
                 try clear hx445_2
                 try clear hx445_3
                 try clear hx452_0
                 try clear hx452_1
                 try clear hx452_2
                 try clear hx452_3
                 try clear hx452_4
                 try clear p2
                 try clear p4
                 try clear p442
                 try clear p445
                 try clear p452
                 try clear p6
                 try clear q3
                 try clear q35
                 try clear q4
                 try clear q442
                 try clear q445
                 try clear q452
                 obtain ⟨kq,x83_38,rfl,HA,HJ38,BK441,BK443,BK453,HB⟩ := hcut
                 cases kq with
                 | zero => exact absurd HA.out (by simp [elfw_relasMay.j3])
                 | succ kj38 =>
                  have H := HA.out;clear HA;simp only [elfw_relasMay.j3] at H
                  by_cases c69 : x83_38 = true
                  ·subst c69
                   have H1 : (some false) = some r := by rw [if_pos rfl] at H;exact H
                   clear H;have H := H1;clear H1;obtain rfl := Option.some.inj H;go_wp2
                   go_ret
                   exact ⟨by first | rfl | (simp [errW_none,errW_some] <;> rfl) | (simp [*,errW_none,errW_some] <;> rfl),by repeat (first | (with_reducible first | exact HB.out | apply below_alloc | apply pw_below_drewN | apply below_drew1 | refine below_set ?_ GE441.out | refine below_set ?_ GE443.out | refine below_set ?_ GE453.out) | exact HB.out)⟩
                  replace c69 := Bool.eq_false_iff.mpr c69;subst c69;have H1 : (elfw_relasMay.l1 kj38 l0_2 (l0_2.length : Int) x14_1 y448 (y448.length : Int) (wrap64 (x55_3 + 1)) l0_0 l0_1 l0_2 l0_3 ((rd_T94 l0_2 x14_1).f0) ((rd_T94 l0_2 x14_1).f1) ((rd_T94 l0_2 x14_1).f2) ((rd_T94 l0_2 x14_1).f3) ((rd_T94 l0_2 x14_1).f4)) = some r := by rw [if_neg (show ¬ (false = true) by decide)] at H;exact H
                  clear H;have H := H1;clear H1;have H' := am0 H;clear H;go_wp2
                  go_roundg kj38
                  case measure => have := HK1.out;have := HJ11.out;have := HK3.out;have := HJ38.out;omega
                  case rel => exact ⟨(wrap64 (x55_3 + 1)),(by first | rfl | (simp;done) | (simp [*];done)),H',⟨by have := HK1.out;have := HJ11.out;have := HK3.out;have := HJ38.out;omega⟩,⟨by (with_reducible repeat (first | refine blk_drewN ?_ _ | refine blk_drew ?_ | refine blk_alloc ?_ _));exact BK441.out⟩,⟨by (with_reducible repeat (first | refine blk_drewN ?_ _ | refine blk_drew ?_ | refine blk_alloc ?_ _));exact BK443.out⟩,⟨by repeat (first | (with_reducible first | exact HB.out | apply below_alloc | apply pw_below_drewN | apply below_drew1 | refine below_set ?_ GE441.out | refine below_set ?_ GE443.out | refine below_set ?_ GE453.out) | exact HB.out)⟩⟩
               rw [if_neg c38] at H;exact absurd H (by simp)
              rw [if_neg c37] at H;exact absurd H (by simp)
             rw [if_neg c36] at H;have c36b0 : decide (x55_3 < (y448.length : Int)) = false := decide_eq_false c36;clear c36;have H' := am0 H;clear H;go_wp2
             go_roundg k3
             case measure => have := HK1.out;have := HJ11.out;have := HK3.out;omega
             case rel => exact ⟨(wrap64 (x14_1 + 1)),(by first | rfl | (simp;done) | (simp [*];done)),H',⟨by have := HK1.out;have := HJ11.out;have := HK3.out;omega⟩,⟨by (with_reducible repeat (first | refine blk_drewN ?_ _ | refine blk_drew ?_ | refine blk_alloc ?_ _));exact BK441.out⟩,⟨by repeat (first | (with_reducible first | exact HB.out | apply below_alloc | apply pw_below_drewN | apply below_drew1 | refine below_set ?_ GE441.out | refine below_set ?_ GE443.out) | exact HB.out)⟩⟩
          rw [if_neg c32] at H;exact absurd H (by simp)
         rw [if_neg c31] at H;exact absurd H (by simp)
      rw [if_neg c11] at H;have c11b0 : (t444 == 0) = false := beq_eq_false_iff_ne.mpr c11;have c11b1 : (t444 != 0) = true := bne_iff_ne.mpr c11;obtain rfl := Option.some.inj H;have p442 : 0 ≤ (x14_1 : Int) := of_decide_eq_true (by first | (with_reducible assumption) | assumption);have q442 : x14_1 < (l0_2.length : Int) := of_decide_eq_true (by first | (with_reducible assumption) | assumption);obtain ⟨ad442,e442,hx442_0,hx442_1,hx442_2,hx442_3,hx442_4⟩ := at_T94 HR0_2.out x14_1 p442 q442;cases e442;replace hx442_0 := (HB.out.cell (World.block_lt_of_cell? w _ hx442_0)).trans hx442_0;replace hx442_1 := (HB.out.cell (World.block_lt_of_cell? w _ hx442_1)).trans hx442_1;replace hx442_2 := (HB.out.cell (World.block_lt_of_cell? w _ hx442_2)).trans hx442_2;replace hx442_3 := (HB.out.cell (World.block_lt_of_cell? w _ hx442_3)).trans hx442_3;replace hx442_4 := (HB.out.cell (World.block_lt_of_cell? w _ hx442_4)).trans hx442_4;replace p442 := eq_true p442;replace q442 := eq_true q442;go_wp2_with (first | ((with_reducible refine gate_dst (N := 4) rfl ?_);refine box_event ?hg (N := 4) ?hd (cs := #[.int .i64 0, .int .i64 0, .int .u8 0, .int .i64 0, .int .i64 0]) (t := 94) ?hr ?_;(case hd => rfl);(case hg => rfl);(case hr => first | (go_simp;done) | (go_simp;rfl));intro gb443 hg w70 hbox hb;have n0_ := am0 (blk_below (g := gb441) (o := .cells #[.slice A0_0 l0_0.length c0_0, .slice A0_1 l0_1.length c0_1, .slice (some ad442) l0_2.length c0_2, .slice A0_3 l0_3.length c0_3] 35 (0,0)) (by (with_reducible repeat (first | refine blk_drewN ?_ _ | refine blk_drew ?_ | refine blk_alloc ?_ _));exact BK441.out) hb);have n1_ := am0 (below_step (by repeat (first | (with_reducible first | exact HB.out | apply below_alloc | apply pw_below_drewN | apply below_drew1 | refine below_set ?_ GE441.out) | exact HB.out)) hb);have n2_ := am0 (hbox);have n3_ := am0 ((by rw [hg];exact (below_size (by repeat (first | (with_reducible first | exact HB.out | apply below_alloc | apply pw_below_drewN | apply below_drew1 | refine below_set ?_ GE441.out) | exact HB.out))) : w.heap.size ≤ gb443));have n4_ := am0 ((by rw [hg];exact (below_size (by repeat (first | (with_reducible first | exact HB.out | apply below_alloc | apply pw_below_drewN | apply below_drew1 | refine below_set ?_ GE441.out) | exact HB.out))) : w.heap.size ≤ gb443));have n5_ := am0 ((by rw [hg];exact Nat.ne_of_lt (blk_lt (g := gb441) (o := .cells #[.slice A0_0 l0_0.length c0_0, .slice A0_1 l0_1.length c0_1, .slice (some ad442) l0_2.length c0_2, .slice A0_3 l0_3.length c0_3] 35 (0,0)) (by (with_reducible repeat (first | refine blk_drewN ?_ _ | refine blk_drew ?_ | refine blk_alloc ?_ _));exact BK441.out)) : gb441 ≠ gb443));have n6_ := am0 ((by rw [hg];exact Nat.ne_of_gt (blk_lt (g := gb441) (o := .cells #[.slice A0_0 l0_0.length c0_0, .slice A0_1 l0_1.length c0_1, .slice (some ad442) l0_2.length c0_2, .slice A0_3 l0_3.length c0_3] 35 (0,0)) (by (with_reducible repeat (first | refine blk_drewN ?_ _ | refine blk_drew ?_ | refine blk_alloc ?_ _));exact BK441.out)) : gb443 ≠ gb441));clear BK441;clear HB;have BK441 := n0_;have HB := n1_;have BK443 := n2_;have GW443 := n3_;have GE443 := n4_;have NB441_443 := n5_;have NB443_441 := n6_;clear n0_ n1_ n2_ n3_ n4_ n5_ n6_;clear hb hbox hg;have hnb71 := NB443_441.out;have hnc71 := NB441_443.out;have hcz72_0 : w70.cell? ⟨gb443,0,none⟩ = some (.int .i64 0) := (blk_cell BK443.out 0).trans rfl;have hcz72_1 : w70.cell? ⟨gb443,1,none⟩ = some (.int .i64 0) := (blk_cell BK443.out 1).trans rfl;have hcz72_2 : w70.cell? ⟨gb443,2,none⟩ = some (.int .u8 0) := (blk_cell BK443.out 2).trans rfl;have hcz72_3 : w70.cell? ⟨gb443,3,none⟩ = some (.int .i64 0) := (blk_cell BK443.out 3).trans rfl;have hcz72_4 : w70.cell? ⟨gb443,4,none⟩ = some (.int .i64 0) := (blk_cell BK443.out 4).trans rfl;have hfz72_0 := blk_frozen BK443.out 0;have hfz72_1 := blk_frozen BK443.out 1;have hfz72_2 := blk_frozen BK443.out 2;have hfz72_3 := blk_frozen BK443.out 3;have hfz72_4 := blk_frozen BK443.out 4;have hcz73_0 : w70.cell? ⟨gb441,0,none⟩ = some (.slice A0_0 l0_0.length c0_0) := (blk_cell BK441.out 0).trans rfl;have hcz73_1 : w70.cell? ⟨gb441,1,none⟩ = some (.slice A0_1 l0_1.length c0_1) := (blk_cell BK441.out 1).trans rfl;have hcz73_2 : w70.cell? ⟨gb441,2,none⟩ = some (.slice (some ad442) l0_2.length c0_2) := (blk_cell BK441.out 2).trans rfl;have hcz73_3 : w70.cell? ⟨gb441,3,none⟩ = some (.slice A0_3 l0_3.length c0_3) := (blk_cell BK441.out 3).trans rfl;have hfz73_0 := blk_frozen BK441.out 0;have hfz73_1 := blk_frozen BK441.out 1;have hfz73_2 := blk_frozen BK441.out 2;have hfz73_3 := blk_frozen BK441.out 3) | ((with_reducible refine gate_callee (f := 46) rfl ?_);refine goesL_ (some 25) rfl rfl Tryd.func46 (by kernel_rfl) rfl #[.agg #[.int .i64 ((rd_T94 l0_2 x14_1).f0), .int .i64 ((rd_T94 l0_2 x14_1).f1), .int .u8 ((rd_T94 l0_2 x14_1).f2), .int .i64 ((rd_T94 l0_2 x14_1).f3), .int .i64 ((rd_T94 l0_2 x14_1).f4)], .slice A0_0 l0_0.length c0_0, .int .i64 (l0_1.length : Int)] rfl (by (try simp only [List.map_toArray,List.map_cons,List.map_nil]);first | done | rfl | (simp only [List.length_drop,List.length_take];rfl)) ?_;(with_reducible refine (rela_Check.calls k1 ((rd_T94 l0_2 x14_1).f0) ((rd_T94 l0_2 x14_1).f1) ((rd_T94 l0_2 x14_1).f2) ((rd_T94 l0_2 x14_1).f3) ((rd_T94 l0_2 x14_1).f4) _ _ l0_0 (l0_1.length : Int) t444 _ ?side1 ?side2 A10.out).mono ?_);(case side1 => exact Kd.C_below HR0_0.out (by repeat (first | (with_reducible first | exact HB.out | apply below_alloc | apply pw_below_drewN | apply below_drew1 | refine below_set ?_ GE441.out | refine below_set ?_ GE443.out) | exact HB.out)));(case side2 => exact HC0_0.out);rintro e w74 ⟨rfl,hb⟩;refine ⟨_,rfl, ?_⟩;have n0_ := am0 (blk_below (g := gb441) (o := .cells #[.slice A0_0 l0_0.length c0_0, .slice A0_1 l0_1.length c0_1, .slice (some ad442) l0_2.length c0_2, .slice A0_3 l0_3.length c0_3] 35 (0,0)) (by (with_reducible repeat (first | refine blk_drewN ?_ _ | refine blk_drew ?_ | refine blk_alloc ?_ _));refine blk_far ?_ NB441_443.out _;(with_reducible repeat (first | refine blk_drewN ?_ _ | refine blk_drew ?_ | refine blk_alloc ?_ _));refine blk_far ?_ NB441_443.out _;(with_reducible repeat (first | refine blk_drewN ?_ _ | refine blk_drew ?_ | refine blk_alloc ?_ _));refine blk_far ?_ NB441_443.out _;(with_reducible repeat (first | refine blk_drewN ?_ _ | refine blk_drew ?_ | refine blk_alloc ?_ _));refine blk_far ?_ NB441_443.out _;(with_reducible repeat (first | refine blk_drewN ?_ _ | refine blk_drew ?_ | refine blk_alloc ?_ _));refine blk_far ?_ NB441_443.out _;(with_reducible repeat (first | refine blk_drewN ?_ _ | refine blk_drew ?_ | refine blk_alloc ?_ _));exact BK441.out) hb);have n1_ := am0 (blk_below (g := gb443) (o := .cells #[.int .i64 ((rd_T94 l0_2 x14_1).f0), .int .i64 ((rd_T94 l0_2 x14_1).f1), .int .u8 ((rd_T94 l0_2 x14_1).f2), .int .i64 ((rd_T94 l0_2 x14_1).f3), .int .i64 ((rd_T94 l0_2 x14_1).f4)] 94 (0,0)) (by (with_reducible repeat (first | refine blk_drewN ?_ _ | refine blk_drew ?_ | refine blk_alloc ?_ _));refine blk_put (cs := #[.int .i64 ((rd_T94 l0_2 x14_1).f0), .int .i64 ((rd_T94 l0_2 x14_1).f1), .int .u8 ((rd_T94 l0_2 x14_1).f2), .int .i64 ((rd_T94 l0_2 x14_1).f3), .int .i64 0]) ?_ 4 _ rfl;(with_reducible repeat (first | refine blk_drewN ?_ _ | refine blk_drew ?_ | refine blk_alloc ?_ _));refine blk_put (cs := #[.int .i64 ((rd_T94 l0_2 x14_1).f0), .int .i64 ((rd_T94 l0_2 x14_1).f1), .int .u8 ((rd_T94 l0_2 x14_1).f2), .int .i64 0, .int .i64 0]) ?_ 3 _ rfl;(with_reducible repeat (first | refine blk_drewN ?_ _ | refine blk_drew ?_ | refine blk_alloc ?_ _));refine blk_put (cs := #[.int .i64 ((rd_T94 l0_2 x14_1).f0), .int .i64 ((rd_T94 l0_2 x14_1).f1), .int .u8 0, .int .i64 0, .int .i64 0]) ?_ 2 _ rfl;(with_reducible repeat (first | refine blk_drewN ?_ _ | refine blk_drew ?_ | refine blk_alloc ?_ _));refine blk_put (cs := #[.int .i64 ((rd_T94 l0_2 x14_1).f0), .int .i64 0, .int .u8 0, .int .i64 0, .int .i64 0]) ?_ 1 _ rfl;(with_reducible repeat (first | refine blk_drewN ?_ _ | refine blk_drew ?_ | refine blk_alloc ?_ _));refine blk_put (cs := #[.int .i64 0, .int .i64 0, .int .u8 0, .int .i64 0, .int .i64 0]) ?_ 0 _ rfl;(with_reducible repeat (first | refine blk_drewN ?_ _ | refine blk_drew ?_ | refine blk_alloc ?_ _));exact BK443.out) hb);have n2_ := am0 (below_step (by repeat (first | (with_reducible first | exact HB.out | apply below_alloc | apply pw_below_drewN | apply below_drew1 | refine below_set ?_ GE441.out | refine below_set ?_ GE443.out) | exact HB.out)) hb);clear BK441;clear BK443;clear HB;have BK441 := n0_;have BK443 := n1_;have HB := n2_;clear n0_ n1_ n2_;(try clear hb);(try clear hb2);(try clear hk);(try clear hi)))
      go_ret
      exact ⟨by first | rfl | (simp [errW_none,errW_some] <;> rfl) | (simp [*,errW_none,errW_some] <;> rfl),by repeat (first | (with_reducible first | exact HB.out | apply below_alloc | apply pw_below_drewN | apply below_drew1 | refine below_set ?_ GE441.out | refine below_set ?_ GE443.out) | exact HB.out)⟩
     rw [if_neg c9] at H;exact absurd H (by simp)
    rw [if_neg c8] at H;exact absurd H (by simp)
   rw [if_neg c7] at H;have c7b0 : decide (x14_1 < (l0_2.length : Int)) = false := decide_eq_false c7;clear c7;obtain rfl := Option.some.inj H;go_wp2
   go_ret
   exact ⟨by first | rfl | (simp [errW_none,errW_some] <;> rfl) | (simp [*,errW_none,errW_some] <;> rfl),by repeat (first | (with_reducible first | exact HB.out | apply below_alloc | apply pw_below_drewN | apply below_drew1 | refine below_set ?_ GE441.out) | exact HB.out)⟩
end Go.Proofs.YtalomolellcefaaDoor.Q
namespace Go.Proofs.YtalomolellcefaaDoor.Q
open Go.RowKit Go.Proofs.YtalomolellcefaaDoorW.PrintWords Go.Proofs.YtalomolellcefaaDoorW.PrintLast Go.Proofs.YtalomolellcefaaDoorW.PrintMore
def TotV {α : Type} (F : Nat → Option α) (v : α) : Prop := ∃ K, ∀ k,K ≤ k → F k = some v
def Tot {α : Type} (F : Nat → Option α) : Prop := ∃ v,TotV F v
section
variable {α β : Type} {F G : Nat → Option α} {v : α}
theorem Tot.const (v : α) : Tot (fun _ => some v) := ⟨v,0,fun _ _ => rfl⟩
theorem TotV.const (v : α) : TotV (fun _ => some v) v := ⟨0,fun _ _ => rfl⟩
theorem Tot.of {v : α} (h : TotV F v) : Tot F := ⟨v,h⟩
theorem TotV.shift (h : TotV (fun k => F (k + 1)) v) : TotV F v := by
 obtain ⟨K,h⟩ := h;exact ⟨K + 1,fun k hk => by obtain ⟨j,rfl⟩ : ∃ j,k = j + 1 := ⟨k - 1,by omega⟩;exact h j (by omega)⟩
theorem Tot.shift (h : Tot (fun k => F (k + 1))) : Tot F := by
 obtain ⟨v,h⟩ := h;exact ⟨v,h.shift⟩
theorem Tot.ite {c : Prop} [Decidable c] (h : c → Tot F) (h' : ¬ c → Tot G) : Tot (fun k => if c then F k else G k) := by
 by_cases hc : c
 ·simp only [if_pos hc];exact h hc
 simp only [if_neg hc];exact h' hc
theorem Tot.bind {H : α → Nat → Option β} (h : Tot F) (k : ∀ v,TotV F v → Tot (H v)) : Tot (fun n => (F n).bind fun x => H x n) := by
 obtain ⟨v,hv⟩ := h;obtain ⟨u,hu⟩ := k v hv;obtain ⟨K,hK⟩ := hv;obtain ⟨L,hL⟩ := hu;exact ⟨u,max K L,fun n hn => by show (F n).bind _ = _;rw [hK n (by omega)];exact hL n (by omega)⟩
theorem TotV.uniq (h : TotV F v) {u : α} (h' : TotV F u) : v = u := by
 obtain ⟨K,hK⟩ := h;obtain ⟨L,hL⟩ := h';have h1 := hK (max K L) (by omega);rw [hL (max K L) (by omega)] at h1;exact (Option.some.inj h1).symm
theorem TotV.at (h : TotV F v) : ∃ k,F k = some v := by
 obtain ⟨K,hK⟩ := h;exact ⟨K,hK K (Nat.le_refl _)⟩
end
theorem field_tot (t : Int) : Tot (fun k => rela_Field.f k t) := by
 unfold rela_Field.f;refine Tot.ite (fun _ => ?_) (fun _ => ?_) <;> refine Tot.shift ?_ <;> simp only [rela_Field.j0]
 all_goals
  refine Tot.ite (fun _ => Tot.const _) (fun _ => ?_);refine Tot.ite (fun _ => ?_) (fun _ => ?_) <;> refine Tot.shift ?_ <;> simp only [rela_Field.j1]
  all_goals
   refine Tot.ite (fun _ => Tot.const _) (fun _ => ?_);repeat' refine Tot.ite (fun _ => ?_) (fun _ => ?_)
   all_goals
    refine Tot.shift ?_;simp only [rela_Field.j2];refine Tot.ite (fun _ => Tot.const _) (fun _ => ?_);repeat' refine Tot.ite (fun _ => ?_) (fun _ => ?_)
    all_goals
     refine Tot.shift ?_;simp only [rela_Field.j3];refine Tot.ite (fun _ => Tot.const _) (fun _ => ?_);repeat' refine Tot.ite (fun _ => ?_) (fun _ => ?_)
     all_goals
      refine Tot.shift ?_;simp only [rela_Field.j4];exact Tot.ite (fun _ => Tot.const _) (fun _ => Tot.const _)
theorem has_tot (a b : Int) (h : 0 ≤ b) : ∃ v,rela_set_has.f a b = some v := by
 unfold rela_set_has.f
 by_cases c : b < 64
 ·exact ⟨_,by rw [if_pos c,if_pos h]⟩
 exact ⟨_,by rw [if_neg c]⟩
theorem may_j3 (x2 : Int) (b : Bool) (r0 r1 r2 r3 r4 : Int) (h : 0 ≤ r2) : Tot (fun k => rela_may.j3 k x2 b r0 r1 r2 r3 r4) := by
 refine Tot.shift ?_;simp only [rela_may.j3];obtain ⟨v,hv⟩ := has_tot 2260595906707456 r2 h;simp only [hv,Option.bind_some];exact Tot.ite (fun _ => Tot.const _) (fun _ => Tot.ite (fun _ => Tot.const _) (fun _ => Tot.ite (fun _ => Tot.const _) (fun _ => Tot.const _)))
theorem may_j2 (x2 : Int) (b : Bool) (r0 r1 r2 r3 r4 : Int) (h : 0 ≤ r2) : Tot (fun k => rela_may.j2 k x2 b r0 r1 r2 r3 r4) := by
 refine Tot.shift ?_;simp only [rela_may.j2];obtain ⟨v,hv⟩ := has_tot 2251799864016896 r2 h;simp only [hv,Option.bind_some];refine Tot.ite (fun _ => Tot.const _) (fun _ => ?_);repeat' first | exact may_j3 _ _ _ _ _ _ _ h | refine Tot.ite (fun _ => ?_) (fun _ => ?_)
theorem may_j1 (x2 x9 : Int) (b : Bool) (r0 r1 r2 r3 r4 : Int) (h : 0 ≤ r2) : Tot (fun k => rela_may.j1 k x2 x9 b r0 r1 r2 r3 r4) := by
 refine Tot.shift ?_;simp only [rela_may.j1];obtain ⟨v,hv⟩ := has_tot 2190433320966 r2 h;simp only [hv,Option.bind_some];refine Tot.ite (fun _ => Tot.const _) (fun _ => ?_);repeat' first | exact may_j2 _ _ _ _ _ _ _ h | refine Tot.ite (fun _ => ?_) (fun _ => ?_)
theorem may_tot (r : S94) (s : S72) (n : Int) (h : 0 ≤ r.f2) : Tot (fun k => rela_may.f k r.f0 r.f1 r.f2 r.f3 r.f4 s.f0 s.f1 s.f2 s.f3 n) := by
 unfold rela_may.f;refine Tot.bind (field_tot _) (fun v _ => ?_);simp only [sect_Kind.f,Option.bind_some];refine Tot.ite (fun _ => ?_) (fun _ => ?_)
 all_goals
  refine Tot.shift ?_;simp only [rela_may.j0];repeat' first | exact may_j1 _ _ _ _ _ _ _ _ h | refine Tot.ite (fun _ => ?_) (fun _ => ?_)
theorem may_align (k : Nat) (r : S94) (s : S72) (n : Int) (h43 : r.f2 = 43) (h : rela_may.f (k + 6) r.f0 r.f1 r.f2 r.f3 r.f4 s.f0 s.f1 s.f2 s.f3 n = some true) : 0 ≤ r.f1 ∧ (0 ≤ r.f4 ∧ r.f4 ≤ 62) ∧ r.f1 ≤ wrap64 ((s.f2.length : Int) - mx 0 r.f4) := by
 have hF : rela_Field.f (k + 6) 43 = some (0,0) := rfl;unfold rela_may.f at h;rw [h43,hF] at h;simp only [sect_Kind.f,Option.bind_some,if_pos rfl,rela_may.j0,if_pos trivial] at h
 have hb : ∀ b,rela_may.j1 (k + 5) n (kindF s.f0).1 true r.f0 r.f1 43 r.f3 r.f4 = some b → b = false := by
  intro b hb;simp only [rela_may.j1,if_pos trivial] at hb;exact (Option.some.inj hb).symm
 by_cases c1 : (kindF s.f0).1 = 4
 ·simp only [if_pos c1] at h
  exact absurd (hb _ h) (by decide)
 simp only [if_neg c1] at h
 by_cases c2 : r.f1 < 0
 ·simp only [if_pos c2] at h
  exact absurd (hb _ h) (by decide)
 simp only [if_neg c2] at h
 by_cases c3 : r.f1 > wrap64 ((s.f2.length : Int) - mx 0 r.f4)
 ·simp only [if_pos c3] at h
  exact absurd (hb _ h) (by decide)
 simp only [if_neg c3] at h
 by_cases c4 : r.f4 < -2147483648
 ·simp only [if_pos c4] at h
  exact absurd (hb _ h) (by decide)
 simp only [if_neg c4,rela_may.j1] at h;refine ⟨by omega, ?_,by omega⟩
 split at h
 ·cases h
 have e1 : rela_set_has.f 2190433320966 43 = some false := by rfl
 have e2 : rela_set_has.f 2251799864016896 43 = some false := by rfl
 rw [e1] at h;simp only [Option.bind_some,Bool.false_eq_true,if_false] at h
 have hj : ∀ b : Bool,rela_may.j2 (k + 4) n b r.f0 r.f1 43 r.f3 r.f4 = some true → 0 ≤ r.f4 ∧ r.f4 ≤ 62 := by
  intro b hb2;simp only [rela_may.j2,e2,Option.bind_some] at hb2;cases b
  ·by_cases d1 : r.f4 < 0
   ·simp [d1,rela_may.j3] at hb2
   by_cases d2 : r.f4 > 62
   ·simp [d1,d2,rela_may.j3] at hb2
   exact ⟨by omega,by omega⟩
  simp at hb2
 by_cases c5 : (kindF s.f0).1 = 1
 ·simp only [if_pos c5] at h
  exact hj _ h
 simp only [if_neg c5] at h;exact hj _ h
theorem relaC_l0 (secs : List S72) (r : S94) (n : Int) (h : 0 ≤ r.f2) (h16 : secs.length ≤ 16) : ∀ m i,i + m = secs.length → ∃ v,TotV (fun k => rela_Check.l0 k secs n secs (secs.length : Int) (i : Int) r.f0 r.f1 r.f2 r.f3 r.f4) v ∧ (v = 0 → (1 ≤ r.f0 ∧ r.f0 ≤ secs.length) ∧ TotV (fun k => rela_may.f k r.f0 r.f1 r.f2 r.f3 r.f4 (rd_T72 secs (r.f0 - 1)).f0 (rd_T72 secs (r.f0 - 1)).f1 (rd_T72 secs (r.f0 - 1)).f2 (rd_T72 secs (r.f0 - 1)).f3 n) true) := by
 intro m
 induction m with
 | zero =>
  intro i hi;have hlt : ¬ (i : Int) < (secs.length : Int) := by omega
  by_cases c1 : r.f0 < 1
  ·refine ⟨8,TotV.shift (TotV.shift ?_),fun e => absurd e (by decide)⟩
   simp only [rela_Check.l0,if_neg hlt,if_pos c1,rela_Check.j2,if_pos trivial];exact TotV.const 8
  by_cases c2 : r.f0 > (secs.length : Int)
  ·refine ⟨8,TotV.shift (TotV.shift ?_),fun e => absurd e (by decide)⟩
   simp only [rela_Check.l0,if_neg hlt,if_neg c1,if_pos c2,rela_Check.j2,if_pos trivial];exact TotV.const 8
  have hw : wrap64 (r.f0 - 1) = r.f0 - 1 := w64 _ (by omega) (by omega);have d1 : 0 ≤ r.f0 - 1 := by omega
  have d2 : r.f0 - 1 < (secs.length : Int) := by omega
  obtain ⟨b,hb⟩ := may_tot r (rd_T72 secs (r.f0 - 1)) n h;refine ⟨if (!b) = true then 8 else 0, ?_,fun e => ⟨⟨by omega,by omega⟩, ?_⟩⟩
  ·obtain ⟨K,hK⟩ := hb
   refine ⟨K + 2,fun k hk => ?_⟩;obtain ⟨j,rfl⟩ : ∃ j,k = j + 2 := ⟨k - 2,by omega⟩;have h1 := hK (j + 1) (by omega);simp only at h1;simp only [rela_Check.l0,if_neg hlt,if_neg c1,if_neg c2,hw,if_pos d1,if_pos d2,h1,Option.bind_some,rela_Check.j2];cases b <;> rfl
  cases b
  ·simp at e
  exact hb
 | succ m ih =>
  intro i hi;have hlt : (i : Int) < (secs.length : Int) := by omega
  have h0 : (0 : Int) ≤ (i : Int) := by omega
  have hw : wrap64 ((i : Int) + 1) = ((i + 1 : Nat) : Int) := by rw [w64] <;> omega
  obtain ⟨v,hv,hv0⟩ := ih (i + 1) (by omega);obtain ⟨K,hK⟩ := hv
  by_cases hs : sectV (rd_T72 secs (i : Int)) = true
  ·refine ⟨v,⟨K + 4,fun k hk => ?_⟩,hv0⟩
   obtain ⟨j,rfl⟩ : ∃ j,k = j + 4 := ⟨k - 4,by omega⟩;have h1 := hK (j + 3) (by omega);simp only at h1;have h2 := sect_val j (rd_T72 secs (i : Int));show rela_Check.l0 ((j + 3) + 1) _ _ _ _ _ _ _ _ _ _ = _;rw [rela_Check.l0];simp only [if_pos hlt,if_pos h0,h2,hs,Option.bind_some,if_true,hw,h1]
  refine ⟨8,⟨4,fun k hk => ?_⟩,fun e => absurd e (by decide)⟩;obtain ⟨j,rfl⟩ : ∃ j,k = j + 4 := ⟨k - 4,by omega⟩;have h2 := sect_val j (rd_T72 secs (i : Int));rw [if_neg hs] at h2;show rela_Check.l0 ((j + 3) + 1) _ _ _ _ _ _ _ _ _ _ = _;rw [rela_Check.l0];simp only [if_pos hlt,if_pos h0,h2,Option.bind_some];rfl
theorem relaC (secs : List S72) (r : S94) (n : Int) (h : 0 ≤ r.f2) : ∃ v,TotV (fun k => rela_Check.f k r.f0 r.f1 r.f2 r.f3 r.f4 secs n) v ∧ (v = 0 → (1 ≤ r.f0 ∧ r.f0 ≤ secs.length) ∧ secs.length ≤ 16 ∧ TotV (fun k => rela_may.f k r.f0 r.f1 r.f2 r.f3 r.f4 (rd_T72 secs (r.f0 - 1)).f0 (rd_T72 secs (r.f0 - 1)).f1 (rd_T72 secs (r.f0 - 1)).f2 (rd_T72 secs (r.f0 - 1)).f3 n) true) := by
 by_cases c1 : (secs.length : Int) > 16
 ·refine ⟨4,⟨0,fun k _ => ?_⟩,fun e => absurd e (by decide)⟩
  simp only [rela_Check.f,if_pos c1]
 have h16 : secs.length ≤ 16 := by omega
 obtain ⟨v,hv,hv0⟩ := relaC_l0 secs r n h h16 secs.length 0 (by omega)
 have hz : ∀ b : Bool, ∃ v,TotV (fun k => rela_Check.j0 k secs n b r.f0 r.f1 r.f2 r.f3 r.f4) v ∧ (v = 0 → (1 ≤ r.f0 ∧ r.f0 ≤ secs.length) ∧ secs.length ≤ 16 ∧ TotV (fun k => rela_may.f k r.f0 r.f1 r.f2 r.f3 r.f4 (rd_T72 secs (r.f0 - 1)).f0 (rd_T72 secs (r.f0 - 1)).f1 (rd_T72 secs (r.f0 - 1)).f2 (rd_T72 secs (r.f0 - 1)).f3 n) true) := by
  intro b;cases b
  ·refine ⟨v,TotV.shift ?_,fun e => ⟨(hv0 e).1,h16,(hv0 e).2⟩⟩
   simp only [rela_Check.j0,Bool.false_eq_true,if_false];exact hv
  refine ⟨2,TotV.shift ?_,fun e => absurd e (by decide)⟩;simp only [rela_Check.j0,if_true];exact TotV.const 2
 simp only [rela_Check.f,if_neg c1]
 by_cases c2 : n < 0
 ·simp only [if_pos c2];exact hz true
 simp only [if_neg c2];exact hz _
theorem span_tot (r : S94) : Tot (fun k => elfw_span.f k r.f0 r.f1 r.f2 r.f3 r.f4) := by
 unfold elfw_span.f;exact Tot.bind (field_tot _) (fun v _ => Tot.ite (fun _ => Tot.const _) (fun _ => Tot.const _))
theorem sums_tot (a b : S94) : ∃ v,elfw_sums.f a.f0 a.f1 a.f2 a.f3 a.f4 b.f0 b.f1 b.f2 b.f3 b.f4 = some v := by
 unfold elfw_sums.f
 by_cases c1 : mn a.f2 b.f2 ≥ 33
 ·by_cases c2 : mn a.f2 b.f2 ≤ 36
  ·exact ⟨_,by rw [if_pos c1,if_pos c2]⟩
  exact ⟨_,by rw [if_pos c1,if_neg c2]⟩
 exact ⟨_,by rw [if_neg c1]⟩
theorem apart_tot (a b : S94) : Tot (fun k => elfw_apart.f k a.f0 a.f1 a.f2 a.f3 a.f4 b.f0 b.f1 b.f2 b.f3 b.f4) := by
 unfold elfw_apart.f;refine Tot.bind (span_tot a) (fun v _ => Tot.bind (span_tot b) (fun u _ => ?_));obtain ⟨x,hx⟩ := sums_tot a b;simp only [hx,Option.bind_some];repeat' first | exact Tot.const _ | refine Tot.ite (fun _ => ?_) (fun _ => ?_)
end Go.Proofs.YtalomolellcefaaDoor.Q
namespace Go.Proofs.YtalomolellcefaaDoor.Q
open Go.RowKit Go.Proofs.YtalomolellcefaaDoorW.PrintWords Go.Proofs.YtalomolellcefaaDoorW.PrintLast Go.Proofs.YtalomolellcefaaDoorW.PrintMore
attribute [local go_sem] max2_int min2_int max_two min_two
mutual
def elfw_Check.l0 : Nat → Bool → List (S72) → Int → Int → List (S72) → List (S40) → List (S94) → List (S68) → Option (Int)
 | 0,_,_,_,_,_,_,_,_ => none
 | k + 1,x3,x11,x12,x13,x456000,x456001,x456002,x456003 => if x13 < x12 then (if 0 ≤ x13 then (if x13 < (x11.length : Int) then (if x3 = true then ((sect_Check.f k ((rd_T72 x11 x13).f0) ((rd_T72 x11 x13).f1) ((rd_T72 x11 x13).f2) ((rd_T72 x11 x13).f3)).bind fun t458 => (elfw_Check.l0 k (t458 == 0) x11 x12 (wrap64 (x13 + 1)) x456000 x456001 x456002 x456003)) else (elfw_Check.l0 k false x11 x12 (wrap64 (x13 + 1)) x456000 x456001 x456002 x456003)) else (none)) else (none)) else (if x3 = true then ((elfw_symbolsMay.f x456000 x456001 x456002 x456003).bind fun t459 => (if t459 = true then ((elfw_relasMay.f k x456000 x456001 x456002 x456003).bind fun t460 => (if t460 = true then ((elfw_groupsMay.f x456000 x456001 x456002 x456003).bind fun t461 => (elfw_Check.j1 k (!t461))) else (elfw_Check.j1 k true))) else (elfw_Check.j1 k true))) else (elfw_Check.j1 k true))
def elfw_Check.j1 : Nat → Bool → Option (Int)
 | 0,_ => none
 | k + 1,x40 => if x40 = true then (some 8) else (some 0)
end
def elfw_Check.f (k : Nat) (l0_0 : List (S72)) (l0_1 : List (S40)) (l0_2 : List (S94)) (l0_3 : List (S68)) : Option (Int) := elfw_Check.l0 k (decide ((l0_0.length : Int) ≤ 16)) l0_0 (l0_0.length : Int) 0 l0_0 l0_1 l0_2 l0_3
theorem elfw_Check.mono_l : ∀ k,(∀ y0 y1 y2 y3 y4 y5 y6 y7,LeO (elfw_Check.l0 k y0 y1 y2 y3 y4 y5 y6 y7) (elfw_Check.l0 (k + 1) y0 y1 y2 y3 y4 y5 y6 y7)) ∧ (∀ y0,LeO (elfw_Check.j1 k y0) (elfw_Check.j1 (k + 1) y0))
 | 0 => ⟨fun _ _ _ _ _ _ _ _ r h => by simp [elfw_Check.l0] at h,fun _ r h => by simp [elfw_Check.j1] at h⟩
 | k + 1 => by
  obtain ⟨ih0,ih1⟩ := elfw_Check.mono_l k;refine ⟨?_, ?_⟩
  ·intro y0 y1 y2 y3 y4 y5 y6 y7
   unfold elfw_Check.l0;repeat' first
   | (with_reducible exact ih0 _ _ _ _ _ _ _ _)
   | (with_reducible exact ih1 _)
   | (with_reducible exact elfw_relasMay.mono _ _ _ _ _)
   | (with_reducible exact sect_Check.mono _ _ _ _ _)
   | (with_reducible exact LeO.refl _)
   | (with_reducible exact LeO.none _)
   | (with_reducible refine LeO.ite ?_ ?_)
   | (with_reducible refine LeO.bind ?_ (fun _ => ?_))
   | exact ih0 _ _ _ _ _ _ _ _
   | exact ih1 _
   | exact elfw_relasMay.mono _ _ _ _ _
   | exact sect_Check.mono _ _ _ _ _
   | exact LeO.none _
   | refine LeO.ite ?_ ?_
   | refine LeO.bind ?_ (fun _ => ?_)
  intro y0;unfold elfw_Check.j1;repeat' first
  | (with_reducible exact ih0 _ _ _ _ _ _ _ _)
  | (with_reducible exact ih1 _)
  | (with_reducible exact elfw_relasMay.mono _ _ _ _ _)
  | (with_reducible exact sect_Check.mono _ _ _ _ _)
  | (with_reducible exact LeO.refl _)
  | (with_reducible exact LeO.none _)
  | (with_reducible refine LeO.ite ?_ ?_)
  | (with_reducible refine LeO.bind ?_ (fun _ => ?_))
  | exact ih0 _ _ _ _ _ _ _ _
  | exact ih1 _
  | exact elfw_relasMay.mono _ _ _ _ _
  | exact sect_Check.mono _ _ _ _ _
  | exact LeO.none _
  | refine LeO.ite ?_ ?_
  | refine LeO.bind ?_ (fun _ => ?_)
theorem elfw_Check.mono : ∀ a0 a1 a2 a3 k,LeO (elfw_Check.f k a0 a1 a2 a3) (elfw_Check.f (k + 1) a0 a1 a2 a3) := by
 intro a0 a1 a2 a3 k;obtain ⟨ih0,ih1⟩ := elfw_Check.mono_l k;unfold elfw_Check.f
 repeat' first
   | (with_reducible exact ih0 _ _ _ _ _ _ _ _)
   | (with_reducible exact ih1 _)
   | (with_reducible exact elfw_relasMay.mono _ _ _ _ _)
   | (with_reducible exact sect_Check.mono _ _ _ _ _)
   | (with_reducible exact LeO.refl _)
   | (with_reducible exact LeO.none _)
   | (with_reducible refine LeO.ite ?_ ?_)
   | (with_reducible refine LeO.bind ?_ (fun _ => ?_))
   | exact ih0 _ _ _ _ _ _ _ _
   | exact ih1 _
   | exact elfw_relasMay.mono _ _ _ _ _
   | exact sect_Check.mono _ _ _ _ _
   | exact LeO.none _
   | refine LeO.ite ?_ ?_
   | refine LeO.bind ?_ (fun _ => ?_)
set_option maxHeartbeats 8000000 in
set_option maxRecDepth 100000 in
theorem elfw_Check.calls (k : Nat) (A0_0 : Option Addr) (c0_0 : Nat) (l0_0 : List (S72)) (A0_1 : Option Addr) (c0_1 : Nat) (l0_1 : List (S40)) (A0_2 : Option Addr) (c0_2 : Nat) (l0_2 : List (S94)) (A0_3 : Option Addr) (c0_3 : Nat) (l0_3 : List (S68)) (r : Int) (w : World) (hr0_0 : Kd.C k72 w A0_0 l0_0.length l0_0) (hc0_0 : l0_0.length ≤ c0_0) (hr0_1 : Kd.C k40 w A0_1 l0_1.length l0_1) (hc0_1 : l0_1.length ≤ c0_1) (hr0_2 : Kd.C k94 w A0_2 l0_2.length l0_2) (hc0_2 : l0_2.length ≤ c0_2) (hr0_3 : Kd.C k68 w A0_3 l0_3.length l0_3) (hc0_3 : l0_3.length ≤ c0_3) (h : elfw_Check.f k l0_0 l0_1 l0_2 l0_3 = some r) :
  Calls Tryd.prog 25 #[.agg #[.slice A0_0 l0_0.length c0_0, .slice A0_1 l0_1.length c0_1, .slice A0_2 l0_2.length c0_2, .slice A0_3 l0_3.length c0_3]] w fun e w' => e = .returned (.int .i64 r) ∧ Below w.heap.size w w' := by
 have hu35 := Tryd.underlying35;have hu72 := Tryd.underlying72;have HR0_0 := am0 hr0_0;have HC0_0 := am0 hc0_0;clear hr0_0 hc0_0;have HR0_1 := am0 hr0_1;have HC0_1 := am0 hc0_1;clear hr0_1 hc0_1;have HR0_2 := am0 hr0_2;have HC0_2 := am0 hc0_2;clear hr0_2 hc0_2;have HR0_3 := am0 hr0_3;have HC0_3 := am0 hc0_3;clear hr0_3 hc0_3;have HB := am0 (Below.refl w.heap.size w);have H : (elfw_Check.l0 k (decide ((l0_0.length : Int) ≤ 16)) l0_0 (l0_0.length : Int) 0 l0_0 l0_1 l0_2 l0_3) = some r := h;clear h;have H' := am0 H;clear H;go_enter Tryd.func25,Tryd.ntmps25
 go_wp2_with (first | ((with_reducible refine gate_dst (N := 1) rfl ?_);refine box_event ?hg (N := 1) ?hd (cs := #[.slice A0_0 l0_0.length c0_0, .slice A0_1 l0_1.length c0_1, .slice A0_2 l0_2.length c0_2, .slice A0_3 l0_3.length c0_3]) (t := 35) ?hr ?_;(case hd => rfl);(case hg => rfl);(case hr => first | (go_simp;done) | (go_simp;rfl));intro gb455 hg w2 hbox hb;have n0_ := am0 (below_step (by repeat (first | (with_reducible first | exact HB.out | apply below_alloc | apply pw_below_drewN | apply below_drew1) | exact HB.out)) hb);have n1_ := am0 (hbox);have n2_ := am0 ((by rw [hg];exact (below_size (by repeat (first | (with_reducible first | exact HB.out | apply below_alloc | apply pw_below_drewN | apply below_drew1) | exact HB.out))) : w.heap.size ≤ gb455));have n3_ := am0 ((by rw [hg];exact (below_size (by repeat (first | (with_reducible first | exact HB.out | apply below_alloc | apply pw_below_drewN | apply below_drew1) | exact HB.out))) : w.heap.size ≤ gb455));clear HB;have HB := n0_;have BK455 := n1_;have GW455 := n2_;have GE455 := n3_;clear n0_ n1_ n2_ n3_;clear hb hbox hg;have hcz3_0 : w2.cell? ⟨gb455,0,none⟩ = some (.slice A0_0 l0_0.length c0_0) := (blk_cell BK455.out 0).trans rfl;have hcz3_1 : w2.cell? ⟨gb455,1,none⟩ = some (.slice A0_1 l0_1.length c0_1) := (blk_cell BK455.out 1).trans rfl;have hcz3_2 : w2.cell? ⟨gb455,2,none⟩ = some (.slice A0_2 l0_2.length c0_2) := (blk_cell BK455.out 2).trans rfl;have hcz3_3 : w2.cell? ⟨gb455,3,none⟩ = some (.slice A0_3 l0_3.length c0_3) := (blk_cell BK455.out 3).trans rfl;have hfz3_0 := blk_frozen BK455.out 0;have hfz3_1 := blk_frozen BK455.out 1;have hfz3_2 := blk_frozen BK455.out 2;have hfz3_3 := blk_frozen BK455.out 3))
 go_loopg [3,13] k (fun kq v3 v13 w' => ∃ (x3_1 : Bool) (x13_1 : Int),v3 = .bool x3_1 ∧ v13 = .int .i64 x13_1 ∧ Aside0 (elfw_Check.l0 kq x3_1 l0_0 (l0_0.length : Int) x13_1 l0_0 l0_1 l0_2 l0_3 = some r) ∧ Aside0 (kq ≤ k) ∧ Aside0 (w'.heap[gb455]? = some (.cells #[(.slice A0_0 l0_0.length c0_0),(.slice A0_1 l0_1.length c0_1),(.slice A0_2 l0_2.length c0_2),(.slice A0_3 l0_3.length c0_3)] 35 (0,0))) ∧ Aside0 (Below w.heap.size w w'))
 case atStart => exact ⟨(decide ((l0_0.length : Int) ≤ 16)),(0),(by first | rfl | (simp;done) | (simp [*];done)),(by first | rfl | (simp;done) | (simp [*];done)),H',⟨Nat.le_refl _⟩,⟨by (with_reducible repeat (first | refine blk_drewN ?_ _ | refine blk_drew ?_ | refine blk_alloc ?_ _));exact BK455.out⟩,⟨by repeat (first | (with_reducible first | exact HB.out | apply below_alloc | apply pw_below_drewN | apply below_drew1 | refine below_set ?_ GE455.out) | exact HB.out)⟩⟩
 case round =>
  clear H';try clear c2
  try clear p2
  try clear hcz3_0
  try clear hcz3_1
  try clear hcz3_2
  try clear hcz3_3
  try clear hfz3_0
  try clear hfz3_1
  try clear hfz3_2
  try clear hfz3_3
  obtain ⟨x3_1,x13_1,rfl,rfl,HA,HK1,BK455,HB⟩ := hrel
  cases gk with
  | zero => exact absurd HA.out (by simp [elfw_Check.l0])
  | succ k1 =>
   have H := HA.out;clear HA;simp only [elfw_Check.l0] at H
   by_cases c4 : x13_1 < (l0_0.length : Int)
   ·rw [if_pos c4] at H
    have c4b0 : decide (x13_1 < (l0_0.length : Int)) = true := decide_eq_true c4;clear c4
    by_cases c5 : 0 ≤ x13_1
    ·rw [if_pos c5] at H
     have c5b0 : decide (0 ≤ x13_1) = true := decide_eq_true c5;clear c5
     by_cases c6 : x13_1 < (l0_0.length : Int)
     ·rw [if_pos c6] at H
      have c6b0 : decide (x13_1 < (l0_0.length : Int)) = true := decide_eq_true c6;clear c6
      by_cases c7 : x3_1 = true
      ·subst c7
       have H1 : ((sect_Check.f k1 ((rd_T72 l0_0 x13_1).f0) ((rd_T72 l0_0 x13_1).f1) ((rd_T72 l0_0 x13_1).f2) ((rd_T72 l0_0 x13_1).f3)).bind fun t458 => (elfw_Check.l0 k1 (t458 == 0) l0_0 (l0_0.length : Int) (wrap64 (x13_1 + 1)) l0_0 l0_1 l0_2 l0_3)) = some r := by rw [if_pos rfl] at H;exact H
       clear H;have H := H1;clear H1;replace H := Option.bind_eq_some_iff.mp H;obtain ⟨t458,A80,H⟩ := H;replace H : (elfw_Check.l0 k1 (t458 == 0) l0_0 (l0_0.length : Int) (wrap64 (x13_1 + 1)) l0_0 l0_1 l0_2 l0_3) = some r := H;have A8 := am0 A80;clear A80;have H' := am0 H;clear H;have p456 : 0 ≤ (x13_1 : Int) := of_decide_eq_true (by first | (with_reducible assumption) | assumption);have q456 : x13_1 < (l0_0.length : Int) := of_decide_eq_true (by first | (with_reducible assumption) | assumption);obtain ⟨ad456,A456_2,c456_2,e456,hx456_0,hx456_1,hx456_2,hx456_3,hl456_2,hi456_2⟩ := at_T72 HR0_0.out x13_1 p456 q456;cases e456;replace hx456_0 := (HB.out.cell (World.block_lt_of_cell? w _ hx456_0)).trans hx456_0;replace hx456_1 := (HB.out.cell (World.block_lt_of_cell? w _ hx456_1)).trans hx456_1;replace hx456_2 := (HB.out.cell (World.block_lt_of_cell? w _ hx456_2)).trans hx456_2;replace hx456_3 := (HB.out.cell (World.block_lt_of_cell? w _ hx456_3)).trans hx456_3;have HR456_2 := am0 hi456_2;have HC456_2 := am0 hl456_2;clear hi456_2 hl456_2;replace p456 := eq_true p456;replace q456 := eq_true q456;go_wp2_with (first | ((with_reducible refine gate_dst (N := 5) rfl ?_);refine box_event ?hg (N := 5) ?hd (cs := #[.string (⟨#[]⟩ : ByteArray), .int .i64 0, .slice none 0 0, .int .i64 0]) (t := 72) ?hr ?_;(case hd => rfl);(case hg => rfl);(case hr => first | (go_simp;done) | (go_simp;rfl));intro gb457 hg w9 hbox hb;have n0_ := am0 (blk_below (g := gb455) (o := .cells #[.slice (some ad456) l0_0.length c0_0, .slice A0_1 l0_1.length c0_1, .slice A0_2 l0_2.length c0_2, .slice A0_3 l0_3.length c0_3] 35 (0,0)) (by (with_reducible repeat (first | refine blk_drewN ?_ _ | refine blk_drew ?_ | refine blk_alloc ?_ _));exact BK455.out) hb);have n1_ := am0 (below_step (by repeat (first | (with_reducible first | exact HB.out | apply below_alloc | apply pw_below_drewN | apply below_drew1 | refine below_set ?_ GE455.out) | exact HB.out)) hb);have n2_ := am0 (hbox);have n3_ := am0 ((by rw [hg];exact (below_size (by repeat (first | (with_reducible first | exact HB.out | apply below_alloc | apply pw_below_drewN | apply below_drew1 | refine below_set ?_ GE455.out) | exact HB.out))) : w.heap.size ≤ gb457));have n4_ := am0 ((by rw [hg];exact (below_size (by repeat (first | (with_reducible first | exact HB.out | apply below_alloc | apply pw_below_drewN | apply below_drew1 | refine below_set ?_ GE455.out) | exact HB.out))) : w.heap.size ≤ gb457));have n5_ := am0 ((by rw [hg];exact Nat.ne_of_lt (blk_lt (g := gb455) (o := .cells #[.slice (some ad456) l0_0.length c0_0, .slice A0_1 l0_1.length c0_1, .slice A0_2 l0_2.length c0_2, .slice A0_3 l0_3.length c0_3] 35 (0,0)) (by (with_reducible repeat (first | refine blk_drewN ?_ _ | refine blk_drew ?_ | refine blk_alloc ?_ _));exact BK455.out)) : gb455 ≠ gb457));have n6_ := am0 ((by rw [hg];exact Nat.ne_of_gt (blk_lt (g := gb455) (o := .cells #[.slice (some ad456) l0_0.length c0_0, .slice A0_1 l0_1.length c0_1, .slice A0_2 l0_2.length c0_2, .slice A0_3 l0_3.length c0_3] 35 (0,0)) (by (with_reducible repeat (first | refine blk_drewN ?_ _ | refine blk_drew ?_ | refine blk_alloc ?_ _));exact BK455.out)) : gb457 ≠ gb455));clear BK455;clear HB;have BK455 := n0_;have HB := n1_;have BK457 := n2_;have GW457 := n3_;have GE457 := n4_;have NB455_457 := n5_;have NB457_455 := n6_;clear n0_ n1_ n2_ n3_ n4_ n5_ n6_;clear hb hbox hg;have hnb10 := NB457_455.out;have hnc10 := NB455_457.out;have hcz11_0 : w9.cell? ⟨gb457,0,none⟩ = some (.string (⟨#[]⟩ : ByteArray)) := (blk_cell BK457.out 0).trans rfl;have hcz11_1 : w9.cell? ⟨gb457,1,none⟩ = some (.int .i64 0) := (blk_cell BK457.out 1).trans rfl;have hcz11_2 : w9.cell? ⟨gb457,2,none⟩ = some (.slice none 0 0) := (blk_cell BK457.out 2).trans rfl;have hcz11_3 : w9.cell? ⟨gb457,3,none⟩ = some (.int .i64 0) := (blk_cell BK457.out 3).trans rfl;have hfz11_0 := blk_frozen BK457.out 0;have hfz11_1 := blk_frozen BK457.out 1;have hfz11_2 := blk_frozen BK457.out 2;have hfz11_3 := blk_frozen BK457.out 3) | (go_at_call 33;(with_reducible refine (sect_Check.calls k1 ((rd_T72 l0_0 x13_1).f0) ((rd_T72 l0_0 x13_1).f1) _ _ ((rd_T72 l0_0 x13_1).f2) ((rd_T72 l0_0 x13_1).f3) t458 _ ?side1 ?side2 A8.out).mono ?_);(case side1 => exact Kd.C_below HR456_2.out (by repeat (first | (with_reducible first | exact HB.out | apply below_alloc | apply pw_below_drewN | apply below_drew1 | refine below_set ?_ GE455.out | refine below_set ?_ GE457.out) | exact HB.out)));(case side2 => exact HC456_2.out);rintro e w12 ⟨rfl,hb⟩;have n0_ := am0 (blk_below (g := gb455) (o := .cells #[.slice (some ad456) l0_0.length c0_0, .slice A0_1 l0_1.length c0_1, .slice A0_2 l0_2.length c0_2, .slice A0_3 l0_3.length c0_3] 35 (0,0)) (by (with_reducible repeat (first | refine blk_drewN ?_ _ | refine blk_drew ?_ | refine blk_alloc ?_ _));refine blk_far ?_ NB455_457.out _;(with_reducible repeat (first | refine blk_drewN ?_ _ | refine blk_drew ?_ | refine blk_alloc ?_ _));refine blk_far ?_ NB455_457.out _;(with_reducible repeat (first | refine blk_drewN ?_ _ | refine blk_drew ?_ | refine blk_alloc ?_ _));refine blk_far ?_ NB455_457.out _;(with_reducible repeat (first | refine blk_drewN ?_ _ | refine blk_drew ?_ | refine blk_alloc ?_ _));refine blk_far ?_ NB455_457.out _;(with_reducible repeat (first | refine blk_drewN ?_ _ | refine blk_drew ?_ | refine blk_alloc ?_ _));exact BK455.out) hb);have n1_ := am0 (blk_below (g := gb457) (o := .cells #[.string ((rd_T72 l0_0 x13_1).f0), .int .i64 ((rd_T72 l0_0 x13_1).f1), .slice A456_2 ((rd_T72 l0_0 x13_1).f2).length c456_2, .int .i64 ((rd_T72 l0_0 x13_1).f3)] 72 (0,0)) (by (with_reducible repeat (first | refine blk_drewN ?_ _ | refine blk_drew ?_ | refine blk_alloc ?_ _));refine blk_put (cs := #[.string ((rd_T72 l0_0 x13_1).f0), .int .i64 ((rd_T72 l0_0 x13_1).f1), .slice A456_2 ((rd_T72 l0_0 x13_1).f2).length c456_2, .int .i64 0]) ?_ 3 _ rfl;(with_reducible repeat (first | refine blk_drewN ?_ _ | refine blk_drew ?_ | refine blk_alloc ?_ _));refine blk_put (cs := #[.string ((rd_T72 l0_0 x13_1).f0), .int .i64 ((rd_T72 l0_0 x13_1).f1), .slice none 0 0, .int .i64 0]) ?_ 2 _ rfl;(with_reducible repeat (first | refine blk_drewN ?_ _ | refine blk_drew ?_ | refine blk_alloc ?_ _));refine blk_put (cs := #[.string ((rd_T72 l0_0 x13_1).f0), .int .i64 0, .slice none 0 0, .int .i64 0]) ?_ 1 _ rfl;(with_reducible repeat (first | refine blk_drewN ?_ _ | refine blk_drew ?_ | refine blk_alloc ?_ _));refine blk_put (cs := #[.string (⟨#[]⟩ : ByteArray), .int .i64 0, .slice none 0 0, .int .i64 0]) ?_ 0 _ rfl;(with_reducible repeat (first | refine blk_drewN ?_ _ | refine blk_drew ?_ | refine blk_alloc ?_ _));exact BK457.out) hb);have n2_ := am0 (below_step (by repeat (first | (with_reducible first | exact HB.out | apply below_alloc | apply pw_below_drewN | apply below_drew1 | refine below_set ?_ GE455.out | refine below_set ?_ GE457.out) | exact HB.out)) hb);clear BK455;clear BK457;clear HB;have BK455 := n0_;have BK457 := n1_;have HB := n2_;clear n0_ n1_ n2_;(try clear hb);(try clear hb2);(try clear hk);(try clear hi)))
       go_roundg k1
       case measure => have := HK1.out;omega
       case rel => exact ⟨((t458 == 0)),(wrap64 (x13_1 + 1)),(by first | rfl | (simp;done) | (simp [*];done)),(by first | rfl | (simp;done) | (simp [*];done)),H',⟨by have := HK1.out;omega⟩,⟨by (with_reducible repeat (first | refine blk_drewN ?_ _ | refine blk_drew ?_ | refine blk_alloc ?_ _));exact BK455.out⟩,⟨by repeat (first | (with_reducible first | exact HB.out | apply below_alloc | apply pw_below_drewN | apply below_drew1 | refine below_set ?_ GE455.out | refine below_set ?_ GE457.out) | exact HB.out)⟩⟩
      replace c7 := Bool.eq_false_iff.mpr c7;subst c7;have H1 : (elfw_Check.l0 k1 false l0_0 (l0_0.length : Int) (wrap64 (x13_1 + 1)) l0_0 l0_1 l0_2 l0_3) = some r := by rw [if_neg (show ¬ (false = true) by decide)] at H;exact H
      clear H;have H := H1;clear H1;have H' := am0 H;clear H;have p456 : 0 ≤ (x13_1 : Int) := of_decide_eq_true (by first | (with_reducible assumption) | assumption);have q456 : x13_1 < (l0_0.length : Int) := of_decide_eq_true (by first | (with_reducible assumption) | assumption);obtain ⟨ad456,A456_2,c456_2,e456,hx456_0,hx456_1,hx456_2,hx456_3,hl456_2,hi456_2⟩ := at_T72 HR0_0.out x13_1 p456 q456;cases e456;replace hx456_0 := (HB.out.cell (World.block_lt_of_cell? w _ hx456_0)).trans hx456_0;replace hx456_1 := (HB.out.cell (World.block_lt_of_cell? w _ hx456_1)).trans hx456_1;replace hx456_2 := (HB.out.cell (World.block_lt_of_cell? w _ hx456_2)).trans hx456_2;replace hx456_3 := (HB.out.cell (World.block_lt_of_cell? w _ hx456_3)).trans hx456_3;have HR456_2 := am0 hi456_2;have HC456_2 := am0 hl456_2;clear hi456_2 hl456_2;replace p456 := eq_true p456;replace q456 := eq_true q456;go_wp2_with (first | ((with_reducible refine gate_dst (N := 5) rfl ?_);refine box_event ?hg (N := 5) ?hd (cs := #[.string (⟨#[]⟩ : ByteArray), .int .i64 0, .slice none 0 0, .int .i64 0]) (t := 72) ?hr ?_;(case hd => rfl);(case hg => rfl);(case hr => first | (go_simp;done) | (go_simp;rfl));intro gb457 hg w13 hbox hb;have n0_ := am0 (blk_below (g := gb455) (o := .cells #[.slice (some ad456) l0_0.length c0_0, .slice A0_1 l0_1.length c0_1, .slice A0_2 l0_2.length c0_2, .slice A0_3 l0_3.length c0_3] 35 (0,0)) (by (with_reducible repeat (first | refine blk_drewN ?_ _ | refine blk_drew ?_ | refine blk_alloc ?_ _));exact BK455.out) hb);have n1_ := am0 (below_step (by repeat (first | (with_reducible first | exact HB.out | apply below_alloc | apply pw_below_drewN | apply below_drew1 | refine below_set ?_ GE455.out) | exact HB.out)) hb);have n2_ := am0 (hbox);have n3_ := am0 ((by rw [hg];exact (below_size (by repeat (first | (with_reducible first | exact HB.out | apply below_alloc | apply pw_below_drewN | apply below_drew1 | refine below_set ?_ GE455.out) | exact HB.out))) : w.heap.size ≤ gb457));have n4_ := am0 ((by rw [hg];exact (below_size (by repeat (first | (with_reducible first | exact HB.out | apply below_alloc | apply pw_below_drewN | apply below_drew1 | refine below_set ?_ GE455.out) | exact HB.out))) : w.heap.size ≤ gb457));have n5_ := am0 ((by rw [hg];exact Nat.ne_of_lt (blk_lt (g := gb455) (o := .cells #[.slice (some ad456) l0_0.length c0_0, .slice A0_1 l0_1.length c0_1, .slice A0_2 l0_2.length c0_2, .slice A0_3 l0_3.length c0_3] 35 (0,0)) (by (with_reducible repeat (first | refine blk_drewN ?_ _ | refine blk_drew ?_ | refine blk_alloc ?_ _));exact BK455.out)) : gb455 ≠ gb457));have n6_ := am0 ((by rw [hg];exact Nat.ne_of_gt (blk_lt (g := gb455) (o := .cells #[.slice (some ad456) l0_0.length c0_0, .slice A0_1 l0_1.length c0_1, .slice A0_2 l0_2.length c0_2, .slice A0_3 l0_3.length c0_3] 35 (0,0)) (by (with_reducible repeat (first | refine blk_drewN ?_ _ | refine blk_drew ?_ | refine blk_alloc ?_ _));exact BK455.out)) : gb457 ≠ gb455));clear BK455;clear HB;have BK455 := n0_;have HB := n1_;have BK457 := n2_;have GW457 := n3_;have GE457 := n4_;have NB455_457 := n5_;have NB457_455 := n6_;clear n0_ n1_ n2_ n3_ n4_ n5_ n6_;clear hb hbox hg;have hnb14 := NB457_455.out;have hnc14 := NB455_457.out;have hcz15_0 : w13.cell? ⟨gb457,0,none⟩ = some (.string (⟨#[]⟩ : ByteArray)) := (blk_cell BK457.out 0).trans rfl;have hcz15_1 : w13.cell? ⟨gb457,1,none⟩ = some (.int .i64 0) := (blk_cell BK457.out 1).trans rfl;have hcz15_2 : w13.cell? ⟨gb457,2,none⟩ = some (.slice none 0 0) := (blk_cell BK457.out 2).trans rfl;have hcz15_3 : w13.cell? ⟨gb457,3,none⟩ = some (.int .i64 0) := (blk_cell BK457.out 3).trans rfl;have hfz15_0 := blk_frozen BK457.out 0;have hfz15_1 := blk_frozen BK457.out 1;have hfz15_2 := blk_frozen BK457.out 2;have hfz15_3 := blk_frozen BK457.out 3))
      go_roundg k1
      case measure => have := HK1.out;omega
      case rel => exact ⟨(false),(wrap64 (x13_1 + 1)),(by first | rfl | (simp;done) | (simp [*];done)),(by first | rfl | (simp;done) | (simp [*];done)),H',⟨by have := HK1.out;omega⟩,⟨by (with_reducible repeat (first | refine blk_drewN ?_ _ | refine blk_drew ?_ | refine blk_alloc ?_ _));refine blk_far ?_ NB455_457.out _;(with_reducible repeat (first | refine blk_drewN ?_ _ | refine blk_drew ?_ | refine blk_alloc ?_ _));refine blk_far ?_ NB455_457.out _;(with_reducible repeat (first | refine blk_drewN ?_ _ | refine blk_drew ?_ | refine blk_alloc ?_ _));refine blk_far ?_ NB455_457.out _;(with_reducible repeat (first | refine blk_drewN ?_ _ | refine blk_drew ?_ | refine blk_alloc ?_ _));refine blk_far ?_ NB455_457.out _;(with_reducible repeat (first | refine blk_drewN ?_ _ | refine blk_drew ?_ | refine blk_alloc ?_ _));exact BK455.out⟩,⟨by repeat (first | (with_reducible first | exact HB.out | apply below_alloc | apply pw_below_drewN | apply below_drew1 | refine below_set ?_ GE455.out | refine below_set ?_ GE457.out) | exact HB.out)⟩⟩
     rw [if_neg c6] at H;exact absurd H (by simp)
    rw [if_neg c5] at H;exact absurd H (by simp)
   rw [if_neg c4] at H;have c4b0 : decide (x13_1 < (l0_0.length : Int)) = false := decide_eq_false c4;clear c4;have HC16 := am0 H;clear H;go_upto_region 7 with (fail)
   go_cut [40] (fun v40 wc => ∃ (kq : Nat) (x40_15 : Bool),v40 = .bool x40_15 ∧ Aside0 (elfw_Check.j1 kq x40_15 = some r) ∧ Aside0 (kq ≤ k1) ∧ Aside0 (wc.heap[gb455]? = some (.cells #[(.slice A0_0 l0_0.length c0_0),(.slice A0_1 l0_1.length c0_1),(.slice A0_2 l0_2.length c0_2),(.slice A0_3 l0_3.length c0_3)] 35 (0,0))) ∧ Aside0 (Below w.heap.size w wc))
   case first =>
    have H := HC16.out;clear HC16
    by_cases c17 : x3_1 = true
    ·subst c17
     have H1 : ((elfw_symbolsMay.f l0_0 l0_1 l0_2 l0_3).bind fun t459 => (if t459 = true then ((elfw_relasMay.f k1 l0_0 l0_1 l0_2 l0_3).bind fun t460 => (if t460 = true then ((elfw_groupsMay.f l0_0 l0_1 l0_2 l0_3).bind fun t461 => (elfw_Check.j1 k1 (!t461))) else (elfw_Check.j1 k1 true))) else (elfw_Check.j1 k1 true))) = some r := by rw [if_pos rfl] at H;exact H
     clear H;have H := H1;clear H1;replace H := Option.bind_eq_some_iff.mp H;obtain ⟨t459,A180,H⟩ := H;replace H : (if t459 = true then ((elfw_relasMay.f k1 l0_0 l0_1 l0_2 l0_3).bind fun t460 => (if t460 = true then ((elfw_groupsMay.f l0_0 l0_1 l0_2 l0_3).bind fun t461 => (elfw_Check.j1 k1 (!t461))) else (elfw_Check.j1 k1 true))) else (elfw_Check.j1 k1 true)) = some r := H;have A18 := am0 A180;clear A180
     by_cases c19 : t459 = true
     ·subst c19
      have H1 : ((elfw_relasMay.f k1 l0_0 l0_1 l0_2 l0_3).bind fun t460 => (if t460 = true then ((elfw_groupsMay.f l0_0 l0_1 l0_2 l0_3).bind fun t461 => (elfw_Check.j1 k1 (!t461))) else (elfw_Check.j1 k1 true))) = some r := by rw [if_pos rfl] at H;exact H
      clear H;have H := H1;clear H1;replace H := Option.bind_eq_some_iff.mp H;obtain ⟨t460,A200,H⟩ := H;replace H : (if t460 = true then ((elfw_groupsMay.f l0_0 l0_1 l0_2 l0_3).bind fun t461 => (elfw_Check.j1 k1 (!t461))) else (elfw_Check.j1 k1 true)) = some r := H;have A20 := am0 A200;clear A200
      by_cases c21 : t460 = true
      ·subst c21
       have H1 : ((elfw_groupsMay.f l0_0 l0_1 l0_2 l0_3).bind fun t461 => (elfw_Check.j1 k1 (!t461))) = some r := by rw [if_pos rfl] at H;exact H
       clear H;have H := H1;clear H1;replace H := Option.bind_eq_some_iff.mp H;obtain ⟨t461,A220,H⟩ := H;replace H : (elfw_Check.j1 k1 (!t461)) = some r := H;have A22 := am0 A220;clear A220;have H' := am0 H;clear H;have hcz23_0 : wr.cell? ⟨gb455,0,none⟩ = some (.slice A0_0 l0_0.length c0_0) := (blk_cell BK455.out 0).trans rfl;have hcz23_1 : wr.cell? ⟨gb455,1,none⟩ = some (.slice A0_1 l0_1.length c0_1) := (blk_cell BK455.out 1).trans rfl;have hcz23_2 : wr.cell? ⟨gb455,2,none⟩ = some (.slice A0_2 l0_2.length c0_2) := (blk_cell BK455.out 2).trans rfl;have hcz23_3 : wr.cell? ⟨gb455,3,none⟩ = some (.slice A0_3 l0_3.length c0_3) := (blk_cell BK455.out 3).trans rfl;have hfz23_0 := blk_frozen BK455.out 0;have hfz23_1 := blk_frozen BK455.out 1;have hfz23_2 := blk_frozen BK455.out 2;have hfz23_3 := blk_frozen BK455.out 3;go_wp2_with (first | (go_at_call 34;(with_reducible refine (elfw_symbolsMay.calls _ _ l0_0 _ _ l0_1 _ _ l0_2 _ _ l0_3 true _ ?side1 ?side2 ?side3 ?side4 ?side5 ?side6 ?side7 ?side8 A18.out).mono ?_);(case side1 => repeat (first | exact (Kd.C_below HR0_0.out HB.out) | (with_reducible refine Kd.C_alloc ?_ _) | (with_reducible refine Kd.C_drewN ?_ _) | (with_reducible refine Kd.C_drew ?_)));(case side2 => exact HC0_0.out);(case side3 => repeat (first | exact (Kd.C_below HR0_1.out HB.out) | (with_reducible refine Kd.C_alloc ?_ _) | (with_reducible refine Kd.C_drewN ?_ _) | (with_reducible refine Kd.C_drew ?_)));(case side4 => exact HC0_1.out);(case side5 => repeat (first | exact (Kd.C_below HR0_2.out HB.out) | (with_reducible refine Kd.C_alloc ?_ _) | (with_reducible refine Kd.C_drewN ?_ _) | (with_reducible refine Kd.C_drew ?_)));(case side6 => exact HC0_2.out);(case side7 => repeat (first | exact (Kd.C_below HR0_3.out HB.out) | (with_reducible refine Kd.C_alloc ?_ _) | (with_reducible refine Kd.C_drewN ?_ _) | (with_reducible refine Kd.C_drew ?_)));(case side8 => exact HC0_3.out);rintro e w24 ⟨rfl,hb⟩;have n0_ := am0 (blk_below (g := gb455) (o := .cells #[.slice A0_0 l0_0.length c0_0, .slice A0_1 l0_1.length c0_1, .slice A0_2 l0_2.length c0_2, .slice A0_3 l0_3.length c0_3] 35 (0,0)) (by (with_reducible repeat (first | refine blk_drewN ?_ _ | refine blk_drew ?_ | refine blk_alloc ?_ _));exact BK455.out) hb);have n1_ := am0 (below_step (by repeat (first | (with_reducible first | exact HB.out | apply below_alloc | apply pw_below_drewN | apply below_drew1 | refine below_set ?_ GE455.out) | exact HB.out)) hb);clear BK455;clear HB;have BK455 := n0_;have HB := n1_;clear n0_ n1_;(try clear hb);(try clear hb2);(try clear hk);(try clear hi);have hcz25_0 : w24.cell? ⟨gb455,0,none⟩ = some (.slice A0_0 l0_0.length c0_0) := (blk_cell BK455.out 0).trans rfl;have hcz25_1 : w24.cell? ⟨gb455,1,none⟩ = some (.slice A0_1 l0_1.length c0_1) := (blk_cell BK455.out 1).trans rfl;have hcz25_2 : w24.cell? ⟨gb455,2,none⟩ = some (.slice A0_2 l0_2.length c0_2) := (blk_cell BK455.out 2).trans rfl;have hcz25_3 : w24.cell? ⟨gb455,3,none⟩ = some (.slice A0_3 l0_3.length c0_3) := (blk_cell BK455.out 3).trans rfl;have hfz25_0 := blk_frozen BK455.out 0;have hfz25_1 := blk_frozen BK455.out 1;have hfz25_2 := blk_frozen BK455.out 2;have hfz25_3 := blk_frozen BK455.out 3) | (go_at_call 35;(with_reducible refine (elfw_relasMay.calls k1 _ _ l0_0 _ _ l0_1 _ _ l0_2 _ _ l0_3 true _ ?side1 ?side2 ?side3 ?side4 ?side5 ?side6 ?side7 ?side8 A20.out).mono ?_);(case side1 => repeat (first | exact (Kd.C_below HR0_0.out HB.out) | (with_reducible refine Kd.C_alloc ?_ _) | (with_reducible refine Kd.C_drewN ?_ _) | (with_reducible refine Kd.C_drew ?_)));(case side2 => exact HC0_0.out);(case side3 => repeat (first | exact (Kd.C_below HR0_1.out HB.out) | (with_reducible refine Kd.C_alloc ?_ _) | (with_reducible refine Kd.C_drewN ?_ _) | (with_reducible refine Kd.C_drew ?_)));(case side4 => exact HC0_1.out);(case side5 => repeat (first | exact (Kd.C_below HR0_2.out HB.out) | (with_reducible refine Kd.C_alloc ?_ _) | (with_reducible refine Kd.C_drewN ?_ _) | (with_reducible refine Kd.C_drew ?_)));(case side6 => exact HC0_2.out);(case side7 => repeat (first | exact (Kd.C_below HR0_3.out HB.out) | (with_reducible refine Kd.C_alloc ?_ _) | (with_reducible refine Kd.C_drewN ?_ _) | (with_reducible refine Kd.C_drew ?_)));(case side8 => exact HC0_3.out);rintro e w26 ⟨rfl,hb⟩;have n0_ := am0 (blk_below (g := gb455) (o := .cells #[.slice A0_0 l0_0.length c0_0, .slice A0_1 l0_1.length c0_1, .slice A0_2 l0_2.length c0_2, .slice A0_3 l0_3.length c0_3] 35 (0,0)) (by (with_reducible repeat (first | refine blk_drewN ?_ _ | refine blk_drew ?_ | refine blk_alloc ?_ _));exact BK455.out) hb);have n1_ := am0 (below_step (by repeat (first | (with_reducible first | exact HB.out | apply below_alloc | apply pw_below_drewN | apply below_drew1 | refine below_set ?_ GE455.out) | exact HB.out)) hb);clear BK455;clear HB;have BK455 := n0_;have HB := n1_;clear n0_ n1_;(try clear hb);(try clear hb2);(try clear hk);(try clear hi);have hcz27_0 : w26.cell? ⟨gb455,0,none⟩ = some (.slice A0_0 l0_0.length c0_0) := (blk_cell BK455.out 0).trans rfl;have hcz27_1 : w26.cell? ⟨gb455,1,none⟩ = some (.slice A0_1 l0_1.length c0_1) := (blk_cell BK455.out 1).trans rfl;have hcz27_2 : w26.cell? ⟨gb455,2,none⟩ = some (.slice A0_2 l0_2.length c0_2) := (blk_cell BK455.out 2).trans rfl;have hcz27_3 : w26.cell? ⟨gb455,3,none⟩ = some (.slice A0_3 l0_3.length c0_3) := (blk_cell BK455.out 3).trans rfl;have hfz27_0 := blk_frozen BK455.out 0;have hfz27_1 := blk_frozen BK455.out 1;have hfz27_2 := blk_frozen BK455.out 2;have hfz27_3 := blk_frozen BK455.out 3) | (go_at_call 36;(with_reducible refine (elfw_groupsMay.calls _ _ l0_0 _ _ l0_1 _ _ l0_2 _ _ l0_3 t461 _ ?side1 ?side2 ?side3 ?side4 ?side5 ?side6 ?side7 ?side8 A22.out).mono ?_);(case side1 => repeat (first | exact (Kd.C_below HR0_0.out HB.out) | (with_reducible refine Kd.C_alloc ?_ _) | (with_reducible refine Kd.C_drewN ?_ _) | (with_reducible refine Kd.C_drew ?_)));(case side2 => exact HC0_0.out);(case side3 => repeat (first | exact (Kd.C_below HR0_1.out HB.out) | (with_reducible refine Kd.C_alloc ?_ _) | (with_reducible refine Kd.C_drewN ?_ _) | (with_reducible refine Kd.C_drew ?_)));(case side4 => exact HC0_1.out);(case side5 => repeat (first | exact (Kd.C_below HR0_2.out HB.out) | (with_reducible refine Kd.C_alloc ?_ _) | (with_reducible refine Kd.C_drewN ?_ _) | (with_reducible refine Kd.C_drew ?_)));(case side6 => exact HC0_2.out);(case side7 => repeat (first | exact (Kd.C_below HR0_3.out HB.out) | (with_reducible refine Kd.C_alloc ?_ _) | (with_reducible refine Kd.C_drewN ?_ _) | (with_reducible refine Kd.C_drew ?_)));(case side8 => exact HC0_3.out);rintro e w28 ⟨rfl,hb⟩;have n0_ := am0 (blk_below (g := gb455) (o := .cells #[.slice A0_0 l0_0.length c0_0, .slice A0_1 l0_1.length c0_1, .slice A0_2 l0_2.length c0_2, .slice A0_3 l0_3.length c0_3] 35 (0,0)) (by (with_reducible repeat (first | refine blk_drewN ?_ _ | refine blk_drew ?_ | refine blk_alloc ?_ _));exact BK455.out) hb);have n1_ := am0 (below_step (by repeat (first | (with_reducible first | exact HB.out | apply below_alloc | apply pw_below_drewN | apply below_drew1 | refine below_set ?_ GE455.out) | exact HB.out)) hb);clear BK455;clear HB;have BK455 := n0_;have HB := n1_;clear n0_ n1_;(try clear hb);(try clear hb2);(try clear hk);(try clear hi)))
       go_meet
       case rel => exact ⟨_,(!t461),(by first | rfl | (simp;done) | (simp [*];done)),H',⟨by have := HK1.out;first | omega | exact Nat.le_refl _⟩,⟨by (with_reducible repeat (first | refine blk_drewN ?_ _ | refine blk_drew ?_ | refine blk_alloc ?_ _));exact BK455.out⟩,⟨by repeat (first | (with_reducible first | exact HB.out | apply below_alloc | apply pw_below_drewN | apply below_drew1 | refine below_set ?_ GE455.out) | exact HB.out)⟩⟩
      replace c21 := Bool.eq_false_iff.mpr c21;subst c21;have H1 : (elfw_Check.j1 k1 true) = some r := by rw [if_neg (show ¬ (false = true) by decide)] at H;exact H
      clear H;have H := H1;clear H1;have H' := am0 H;clear H;have hcz29_0 : wr.cell? ⟨gb455,0,none⟩ = some (.slice A0_0 l0_0.length c0_0) := (blk_cell BK455.out 0).trans rfl;have hcz29_1 : wr.cell? ⟨gb455,1,none⟩ = some (.slice A0_1 l0_1.length c0_1) := (blk_cell BK455.out 1).trans rfl;have hcz29_2 : wr.cell? ⟨gb455,2,none⟩ = some (.slice A0_2 l0_2.length c0_2) := (blk_cell BK455.out 2).trans rfl;have hcz29_3 : wr.cell? ⟨gb455,3,none⟩ = some (.slice A0_3 l0_3.length c0_3) := (blk_cell BK455.out 3).trans rfl;have hfz29_0 := blk_frozen BK455.out 0;have hfz29_1 := blk_frozen BK455.out 1;have hfz29_2 := blk_frozen BK455.out 2;have hfz29_3 := blk_frozen BK455.out 3;go_wp2_with (first | (go_at_call 34;(with_reducible refine (elfw_symbolsMay.calls _ _ l0_0 _ _ l0_1 _ _ l0_2 _ _ l0_3 true _ ?side1 ?side2 ?side3 ?side4 ?side5 ?side6 ?side7 ?side8 A18.out).mono ?_);(case side1 => repeat (first | exact (Kd.C_below HR0_0.out HB.out) | (with_reducible refine Kd.C_alloc ?_ _) | (with_reducible refine Kd.C_drewN ?_ _) | (with_reducible refine Kd.C_drew ?_)));(case side2 => exact HC0_0.out);(case side3 => repeat (first | exact (Kd.C_below HR0_1.out HB.out) | (with_reducible refine Kd.C_alloc ?_ _) | (with_reducible refine Kd.C_drewN ?_ _) | (with_reducible refine Kd.C_drew ?_)));(case side4 => exact HC0_1.out);(case side5 => repeat (first | exact (Kd.C_below HR0_2.out HB.out) | (with_reducible refine Kd.C_alloc ?_ _) | (with_reducible refine Kd.C_drewN ?_ _) | (with_reducible refine Kd.C_drew ?_)));(case side6 => exact HC0_2.out);(case side7 => repeat (first | exact (Kd.C_below HR0_3.out HB.out) | (with_reducible refine Kd.C_alloc ?_ _) | (with_reducible refine Kd.C_drewN ?_ _) | (with_reducible refine Kd.C_drew ?_)));(case side8 => exact HC0_3.out);rintro e w30 ⟨rfl,hb⟩;have n0_ := am0 (blk_below (g := gb455) (o := .cells #[.slice A0_0 l0_0.length c0_0, .slice A0_1 l0_1.length c0_1, .slice A0_2 l0_2.length c0_2, .slice A0_3 l0_3.length c0_3] 35 (0,0)) (by (with_reducible repeat (first | refine blk_drewN ?_ _ | refine blk_drew ?_ | refine blk_alloc ?_ _));exact BK455.out) hb);have n1_ := am0 (below_step (by repeat (first | (with_reducible first | exact HB.out | apply below_alloc | apply pw_below_drewN | apply below_drew1 | refine below_set ?_ GE455.out) | exact HB.out)) hb);clear BK455;clear HB;have BK455 := n0_;have HB := n1_;clear n0_ n1_;(try clear hb);(try clear hb2);(try clear hk);(try clear hi);have hcz31_0 : w30.cell? ⟨gb455,0,none⟩ = some (.slice A0_0 l0_0.length c0_0) := (blk_cell BK455.out 0).trans rfl;have hcz31_1 : w30.cell? ⟨gb455,1,none⟩ = some (.slice A0_1 l0_1.length c0_1) := (blk_cell BK455.out 1).trans rfl;have hcz31_2 : w30.cell? ⟨gb455,2,none⟩ = some (.slice A0_2 l0_2.length c0_2) := (blk_cell BK455.out 2).trans rfl;have hcz31_3 : w30.cell? ⟨gb455,3,none⟩ = some (.slice A0_3 l0_3.length c0_3) := (blk_cell BK455.out 3).trans rfl;have hfz31_0 := blk_frozen BK455.out 0;have hfz31_1 := blk_frozen BK455.out 1;have hfz31_2 := blk_frozen BK455.out 2;have hfz31_3 := blk_frozen BK455.out 3) | (go_at_call 35;(with_reducible refine (elfw_relasMay.calls k1 _ _ l0_0 _ _ l0_1 _ _ l0_2 _ _ l0_3 false _ ?side1 ?side2 ?side3 ?side4 ?side5 ?side6 ?side7 ?side8 A20.out).mono ?_);(case side1 => repeat (first | exact (Kd.C_below HR0_0.out HB.out) | (with_reducible refine Kd.C_alloc ?_ _) | (with_reducible refine Kd.C_drewN ?_ _) | (with_reducible refine Kd.C_drew ?_)));(case side2 => exact HC0_0.out);(case side3 => repeat (first | exact (Kd.C_below HR0_1.out HB.out) | (with_reducible refine Kd.C_alloc ?_ _) | (with_reducible refine Kd.C_drewN ?_ _) | (with_reducible refine Kd.C_drew ?_)));(case side4 => exact HC0_1.out);(case side5 => repeat (first | exact (Kd.C_below HR0_2.out HB.out) | (with_reducible refine Kd.C_alloc ?_ _) | (with_reducible refine Kd.C_drewN ?_ _) | (with_reducible refine Kd.C_drew ?_)));(case side6 => exact HC0_2.out);(case side7 => repeat (first | exact (Kd.C_below HR0_3.out HB.out) | (with_reducible refine Kd.C_alloc ?_ _) | (with_reducible refine Kd.C_drewN ?_ _) | (with_reducible refine Kd.C_drew ?_)));(case side8 => exact HC0_3.out);rintro e w32 ⟨rfl,hb⟩;have n0_ := am0 (blk_below (g := gb455) (o := .cells #[.slice A0_0 l0_0.length c0_0, .slice A0_1 l0_1.length c0_1, .slice A0_2 l0_2.length c0_2, .slice A0_3 l0_3.length c0_3] 35 (0,0)) (by (with_reducible repeat (first | refine blk_drewN ?_ _ | refine blk_drew ?_ | refine blk_alloc ?_ _));exact BK455.out) hb);have n1_ := am0 (below_step (by repeat (first | (with_reducible first | exact HB.out | apply below_alloc | apply pw_below_drewN | apply below_drew1 | refine below_set ?_ GE455.out) | exact HB.out)) hb);clear BK455;clear HB;have BK455 := n0_;have HB := n1_;clear n0_ n1_;(try clear hb);(try clear hb2);(try clear hk);(try clear hi)))
      go_meet
      case rel => exact ⟨_,(true),(by first | rfl | (simp;done) | (simp [*];done)),H',⟨by have := HK1.out;first | omega | exact Nat.le_refl _⟩,⟨by (with_reducible repeat (first | refine blk_drewN ?_ _ | refine blk_drew ?_ | refine blk_alloc ?_ _));exact BK455.out⟩,⟨by repeat (first | (with_reducible first | exact HB.out | apply below_alloc | apply pw_below_drewN | apply below_drew1 | refine below_set ?_ GE455.out) | exact HB.out)⟩⟩
     replace c19 := Bool.eq_false_iff.mpr c19;subst c19;have H1 : (elfw_Check.j1 k1 true) = some r := by rw [if_neg (show ¬ (false = true) by decide)] at H;exact H
     clear H;have H := H1;clear H1;have H' := am0 H;clear H;have hcz33_0 : wr.cell? ⟨gb455,0,none⟩ = some (.slice A0_0 l0_0.length c0_0) := (blk_cell BK455.out 0).trans rfl;have hcz33_1 : wr.cell? ⟨gb455,1,none⟩ = some (.slice A0_1 l0_1.length c0_1) := (blk_cell BK455.out 1).trans rfl;have hcz33_2 : wr.cell? ⟨gb455,2,none⟩ = some (.slice A0_2 l0_2.length c0_2) := (blk_cell BK455.out 2).trans rfl;have hcz33_3 : wr.cell? ⟨gb455,3,none⟩ = some (.slice A0_3 l0_3.length c0_3) := (blk_cell BK455.out 3).trans rfl;have hfz33_0 := blk_frozen BK455.out 0;have hfz33_1 := blk_frozen BK455.out 1;have hfz33_2 := blk_frozen BK455.out 2;have hfz33_3 := blk_frozen BK455.out 3;go_wp2_with (first | (go_at_call 34;(with_reducible refine (elfw_symbolsMay.calls _ _ l0_0 _ _ l0_1 _ _ l0_2 _ _ l0_3 false _ ?side1 ?side2 ?side3 ?side4 ?side5 ?side6 ?side7 ?side8 A18.out).mono ?_);(case side1 => repeat (first | exact (Kd.C_below HR0_0.out HB.out) | (with_reducible refine Kd.C_alloc ?_ _) | (with_reducible refine Kd.C_drewN ?_ _) | (with_reducible refine Kd.C_drew ?_)));(case side2 => exact HC0_0.out);(case side3 => repeat (first | exact (Kd.C_below HR0_1.out HB.out) | (with_reducible refine Kd.C_alloc ?_ _) | (with_reducible refine Kd.C_drewN ?_ _) | (with_reducible refine Kd.C_drew ?_)));(case side4 => exact HC0_1.out);(case side5 => repeat (first | exact (Kd.C_below HR0_2.out HB.out) | (with_reducible refine Kd.C_alloc ?_ _) | (with_reducible refine Kd.C_drewN ?_ _) | (with_reducible refine Kd.C_drew ?_)));(case side6 => exact HC0_2.out);(case side7 => repeat (first | exact (Kd.C_below HR0_3.out HB.out) | (with_reducible refine Kd.C_alloc ?_ _) | (with_reducible refine Kd.C_drewN ?_ _) | (with_reducible refine Kd.C_drew ?_)));(case side8 => exact HC0_3.out);rintro e w34 ⟨rfl,hb⟩;have n0_ := am0 (blk_below (g := gb455) (o := .cells #[.slice A0_0 l0_0.length c0_0, .slice A0_1 l0_1.length c0_1, .slice A0_2 l0_2.length c0_2, .slice A0_3 l0_3.length c0_3] 35 (0,0)) (by (with_reducible repeat (first | refine blk_drewN ?_ _ | refine blk_drew ?_ | refine blk_alloc ?_ _));exact BK455.out) hb);have n1_ := am0 (below_step (by repeat (first | (with_reducible first | exact HB.out | apply below_alloc | apply pw_below_drewN | apply below_drew1 | refine below_set ?_ GE455.out) | exact HB.out)) hb);clear BK455;clear HB;have BK455 := n0_;have HB := n1_;clear n0_ n1_;(try clear hb);(try clear hb2);(try clear hk);(try clear hi)))
     go_meet
     case rel => exact ⟨_,(true),(by first | rfl | (simp;done) | (simp [*];done)),H',⟨by have := HK1.out;first | omega | exact Nat.le_refl _⟩,⟨by (with_reducible repeat (first | refine blk_drewN ?_ _ | refine blk_drew ?_ | refine blk_alloc ?_ _));exact BK455.out⟩,⟨by repeat (first | (with_reducible first | exact HB.out | apply below_alloc | apply pw_below_drewN | apply below_drew1 | refine below_set ?_ GE455.out) | exact HB.out)⟩⟩
    replace c17 := Bool.eq_false_iff.mpr c17;subst c17;have H1 : (elfw_Check.j1 k1 true) = some r := by rw [if_neg (show ¬ (false = true) by decide)] at H;exact H
    clear H;have H := H1;clear H1;have H' := am0 H;clear H;go_wp2
    go_meet
    case rel => exact ⟨_,(true),(by first | rfl | (simp;done) | (simp [*];done)),H',⟨by have := HK1.out;first | omega | exact Nat.le_refl _⟩,⟨by (with_reducible repeat (first | refine blk_drewN ?_ _ | refine blk_drew ?_ | refine blk_alloc ?_ _));exact BK455.out⟩,⟨by repeat (first | (with_reducible first | exact HB.out | apply below_alloc | apply pw_below_drewN | apply below_drew1 | refine below_set ?_ GE455.out) | exact HB.out)⟩⟩
   case rest =>
    clear HC16;try clear c1
    try clear c2
    try clear p2
    try clear c4
    try clear c4b0
    try clear p4
    try clear q4
    try clear hx4
    try clear c5
    try clear c5b0
    try clear c6
    try clear c6b0
    try clear p6
    try clear c7
    try clear c10
    try clear c14
    try clear c17
    try clear c19
    try clear c21
    try clear c25
    try clear hcz11_0
    try clear hcz11_1
    try clear hcz11_2
    try clear hcz11_3
    try clear hcz15_0
    try clear hcz15_1
    try clear hcz15_2
    try clear hcz15_3
    try clear hcz23_0
    try clear hcz23_1
    try clear hcz23_2
    try clear hcz23_3
    try clear hcz25_0
    try clear hcz25_1
    try clear hcz25_2
    try clear hcz25_3
    try clear hcz27_0
    try clear hcz27_1
    try clear hcz27_2
    try clear hcz27_3
    try clear hcz29_0
    try clear hcz29_1
    try clear hcz29_2
    try clear hcz29_3
    try clear hcz31_0
    try clear hcz31_1
    try clear hcz31_2
    try clear hcz31_3
    try clear hcz33_0
    try clear hcz33_1
    try clear hcz33_2
    try clear hcz33_3
    try clear hcz3_0
    try clear hcz3_1
    try clear hcz3_2
    try clear hcz3_3
    try clear hfz11_0
    try clear hfz11_1
    try clear hfz11_2
    try clear hfz11_3
    try clear hfz15_0
    try clear hfz15_1
    try clear hfz15_2
    try clear hfz15_3
    try clear hfz23_0
    try clear hfz23_1
    try clear hfz23_2
    try clear hfz23_3
    try clear hfz25_0
    try clear hfz25_1
    try clear hfz25_2
    try clear hfz25_3
    try clear hfz27_0
    try clear hfz27_1
    try clear hfz27_2
    try clear hfz27_3
    try clear hfz29_0
    try clear hfz29_1
    try clear hfz29_2
    try clear hfz29_3
    try clear hfz31_0
    try clear hfz31_1
    try clear hfz31_2
    try clear hfz31_3
    try clear hfz33_0
    try clear hfz33_1
    try clear hfz33_2
    try clear hfz33_3
    try clear hfz3_0
    try clear hfz3_1
    try clear hfz3_2
    try clear hfz3_3
    try clear hx456_0
    try clear hx456_1
    try clear hx456_2
    try clear hx456_3
    try clear p2
    try clear p456
    try clear q456
    obtain ⟨kq,x40_15,rfl,HA,HJ15,BK455,HB⟩ := hcut
    cases kq with
    | zero => exact absurd HA.out (by simp [elfw_Check.j1])
    | succ kj15 =>
     have H := HA.out;clear HA;simp only [elfw_Check.j1] at H
     by_cases c35 : x40_15 = true
     ·subst c35
      have H1 : (some 8) = some r := by rw [if_pos rfl] at H;exact H
      clear H;have H := H1;clear H1;obtain rfl := Option.some.inj H;go_wp2
      go_ret
      exact ⟨by first | rfl | (simp [errW_none,errW_some] <;> rfl) | (simp [*,errW_none,errW_some] <;> rfl),by repeat (first | (with_reducible first | exact HB.out | apply below_alloc | apply pw_below_drewN | apply below_drew1 | refine below_set ?_ GE455.out) | exact HB.out)⟩
     replace c35 := Bool.eq_false_iff.mpr c35;subst c35;have H1 : (some 0) = some r := by rw [if_neg (show ¬ (false = true) by decide)] at H;exact H
     clear H;have H := H1;clear H1;obtain rfl := Option.some.inj H;go_wp2
     go_ret
     exact ⟨by first | rfl | (simp [errW_none,errW_some] <;> rfl) | (simp [*,errW_none,errW_some] <;> rfl),by repeat (first | (with_reducible first | exact HB.out | apply below_alloc | apply pw_below_drewN | apply below_drew1 | refine below_set ?_ GE455.out) | exact HB.out)⟩
end Go.Proofs.YtalomolellcefaaDoor.Q
namespace Go.Proofs.YtalomolellcefaaDoor.Q
open Go.RowKit Go.Proofs.YtalomolellcefaaDoorW.PrintWords Go.Proofs.YtalomolellcefaaDoorW.PrintLast Go.Proofs.YtalomolellcefaaDoorW.PrintMore
section
variable {secs : List S72} {syms : List S40} {relas : List S94} {groups : List S68}
theorem rm_l1 (x12 : List S94) (x13 x14 : Int) (r0 r1 r2 r3 r4 : Int) (hnext : Tot (fun k => elfw_relasMay.l0 k x12 x13 (wrap64 (x14 + 1)) secs syms relas groups)) (ys : List S94) (hl : ys.length ≤ 256) :
  ∀ m i,i + m = ys.length → Tot (fun k => elfw_relasMay.l1 k x12 x13 x14 ys (ys.length : Int) (i : Int) secs syms relas groups r0 r1 r2 r3 r4) := by
 intro m
 induction m with
 | zero =>
  intro i hi;have hlt : ¬ (i : Int) < (ys.length : Int) := by omega
  refine Tot.shift ?_;simp only [elfw_relasMay.l1,if_neg hlt];exact hnext
 | succ m ih =>
  intro i hi;have hlt : (i : Int) < (ys.length : Int) := by omega
  have h0 : (0 : Int) ≤ (i : Int) := by omega
  have hw : wrap64 ((i : Int) + 1) = ((i + 1 : Nat) : Int) := by rw [w64] <;> omega
  have hj : ∀ b : Bool,Tot (fun k => elfw_relasMay.j3 k x12 x13 x14 ys (ys.length : Int) (i : Int) b secs syms relas groups r0 r1 r2 r3 r4) := by
   intro b;refine Tot.shift ?_;simp only [elfw_relasMay.j3,hw];exact Tot.ite (fun _ => Tot.const _) (fun _ => ih (i + 1) (by omega))
  refine Tot.shift ?_;simp only [elfw_relasMay.l1,if_pos hlt,if_pos h0];refine Tot.ite (fun _ => hj true) (fun _ => Tot.ite (fun _ => Tot.ite (fun _ => hj true) (fun _ => ?_)) (fun _ => hj false));exact Tot.bind (apart_tot (rd_T94 ys (i : Int)) ⟨r0,r1,r2,r3,r4⟩) (fun v _ => hj (!v))
theorem rd_mem {α : Type} (z : α) (l : List α) (i : Nat) (h : i < l.length) : l.getD i z ∈ l := by
 rw [List.getD_eq_getElem?_getD,List.getElem?_eq_getElem h,Option.getD_some];exact List.getElem_mem h
theorem rm_l0 (hb : ∀ r ∈ relas,0 ≤ r.f2) (hd : ∀ s ∈ secs,s.f2.length ≤ 140737488351232) (hl : relas.length ≤ 256) :
  ∀ m i,i + m = relas.length → Tot (fun k => elfw_relasMay.l0 k relas (relas.length : Int) (i : Int) secs syms relas groups) := by
 intro m
 induction m with
 | zero =>
  intro i hi;have hlt : ¬ (i : Int) < (relas.length : Int) := by omega
  refine Tot.shift ?_;simp only [elfw_relasMay.l0,if_neg hlt];exact Tot.const _
 | succ m ih =>
  intro i hi;have hlt : (i : Int) < (relas.length : Int) := by omega
  have h0 : (0 : Int) ≤ (i : Int) := by omega
  have hle : (i : Int) ≤ (relas.length : Int) := by omega
  have hw : wrap64 ((i : Int) + 1) = ((i + 1 : Nat) : Int) := by rw [w64] <;> omega
  have hr : 0 ≤ (rd_T94 relas (i : Int)).f2 := hb _ (rd_mem _ _ _ (by rw [Int.toNat_natCast];omega));have hnext := ih (i + 1) (by omega);rw [← hw] at hnext
  have hj : ∀ b : Bool,Tot (fun k => elfw_relasMay.j1 k (i : Int) relas (relas.length : Int) (i : Int) b secs syms relas groups (rd_T94 relas (i : Int)).f0 (rd_T94 relas (i : Int)).f1 (rd_T94 relas (i : Int)).f2 (rd_T94 relas (i : Int)).f3 (rd_T94 relas (i : Int)).f4) := by
   intro b;refine Tot.shift ?_;simp only [elfw_relasMay.j1,if_pos h0,if_pos hle,Option.bind_some];refine Tot.ite (fun _ => Tot.const _) (fun _ => ?_);exact rm_l1 relas (relas.length : Int) (i : Int) _ _ _ _ _ hnext _ (by rw [List.length_take];omega) _ 0 (Nat.zero_add _)
  refine Tot.shift ?_;simp only [elfw_relasMay.l0,if_pos hlt,if_pos h0];generalize rd_T94 relas (i : Int) = r at hr hj ⊢;obtain ⟨v,hv,hv0⟩ := relaC secs r (syms.length : Int) hr;refine Tot.bind (Tot.of hv) (fun u hu => ?_);obtain rfl := hv.uniq hu;refine Tot.ite (fun hz => ?_) (fun _ => Tot.const _);obtain ⟨⟨s1,s2⟩,h16,hm⟩ := hv0 hz;refine Tot.ite (fun h43 => ?_) (fun _ => hj false);have hw2 : wrap64 (r.f0 - 1) = r.f0 - 1 := w64 _ (by omega) (by omega);have d1 : 0 ≤ r.f0 - 1 := by omega
  have d2 : r.f0 - 1 < (secs.length : Int) := by omega
  obtain ⟨K,hK⟩ := hm;obtain ⟨f1,⟨f4a,f4b⟩,fl⟩ := may_align K r (rd_T72 secs (r.f0 - 1)) (syms.length : Int) h43 (hK (K + 6) (by omega));have hdl := hd (rd_T72 secs (r.f0 - 1)) (rd_mem _ _ _ (by omega));have hmx : mx 0 r.f4 = r.f4 := by unfold mx;split <;> omega
  rw [hmx,w64 _ (by omega) (by omega)] at fl;have hw3 : wrap64 (r.f1 + r.f4) = r.f1 + r.f4 := w64 _ (by omega) (by omega);have d3 : r.f1 ≤ r.f1 + r.f4 := by omega
  have d4 : r.f1 + r.f4 ≤ ((rd_T72 secs (r.f0 - 1)).f2.length : Int) := by omega
  simp only [hw2,hw3,if_pos d1,if_pos d2,if_pos f1,if_pos d3,if_pos d4];have hfl : ∀ xs : List Int,xs.length ≤ 140737488351232 → elfw_filled.f xs = some (filledV xs) := fun xs h => by rw [elfw_filled.f,if_pos h]
  rw [hfl _ (by rw [List.length_drop,List.length_take];omega)];simp only [Option.bind_some];exact hj _
theorem relas_tot (hb : ∀ r ∈ relas,0 ≤ r.f2) (hd : ∀ s ∈ secs,s.f2.length ≤ 140737488351232) : Tot (fun k => elfw_relasMay.f k secs syms relas groups) := by
 unfold elfw_relasMay.f;refine Tot.ite (fun _ => Tot.const _) (fun h => ?_);exact rm_l0 hb hd (by omega) relas.length 0 (by omega)
def ObjFit (secs : List S72) (syms : List S40) (relas : List S94) (groups : List S68) : Prop :=
 secs.length < 1099511627776 ∧ (∀ s ∈ secs,s.f2.length ≤ 140737488351232) ∧ syms.length < 1099511627776 ∧ (∀ r ∈ relas,0 ≤ r.f2) ∧ groupsFit groups = true
theorem ec_l0 (h : ObjFit secs syms relas groups) : ∀ m i (b : Bool),i + m = secs.length → ∃ v,TotV (fun k => elfw_Check.l0 k b secs (secs.length : Int) (i : Int) secs syms relas groups) v ∧ (v = 0 ∨ v = 8) ∧ (v = 0 → b = true ∧ symbolsV secs syms = true ∧ groupsV secs groups = true) := by
 obtain ⟨hs,hd,hy,hb,hg⟩ := h;intro m
 induction m with
 | zero =>
  intro i b hi;have hlt : ¬ (i : Int) < (secs.length : Int) := by omega
  have hsy : elfw_symbolsMay.f secs syms relas groups = some (symbolsV secs syms) := by rw [elfw_symbolsMay.f,if_pos hy]
  have hgr : elfw_groupsMay.f secs syms relas groups = some (groupsV secs groups) := by rw [elfw_groupsMay.f,if_pos hg]
  have h8 : ∀ F : Nat → Option Int,(∀ k,F (k + 2) = some 8) → ∃ v,TotV F v ∧ (v = 0 ∨ v = 8) ∧ (v = 0 → b = true ∧ symbolsV secs syms = true ∧ groupsV secs groups = true) := fun F hF =>
   ⟨8,⟨2,fun k hk => by obtain ⟨j,rfl⟩ : ∃ j,k = j + 2 := ⟨k - 2,by omega⟩;exact hF j⟩, .inr rfl,fun e => absurd e (by decide)⟩
  cases b
  ·exact h8 _ (fun k => by simp [elfw_Check.l0,hlt,elfw_Check.j1])
  by_cases hS' : symbolsV secs syms = false
  ·exact h8 _ (fun k => by simp [elfw_Check.l0,hlt,elfw_Check.j1,hsy,hS'])
  have hS : symbolsV secs syms = true := by simpa using hS'
  obtain ⟨v,K,hK⟩ := relas_tot (groups := groups) (syms := syms) hb hd;refine ⟨if v && groupsV secs groups then 0 else 8,⟨K + 2,fun k hk => ?_⟩,by split <;> simp,fun e => ⟨rfl,hS,by revert e;cases v <;> cases groupsV secs groups <;> simp⟩⟩;obtain ⟨j,rfl⟩ : ∃ j,k = j + 2 := ⟨k - 2,by omega⟩;have h1 := hK (j + 1) (by omega);simp only at h1;cases v <;> cases hG : groupsV secs groups <;> simp [elfw_Check.l0,hlt,elfw_Check.j1,hsy,hS,hgr,hG,h1]
 | succ m ih =>
  intro i b hi;have hlt : (i : Int) < (secs.length : Int) := by omega
  have h0 : (0 : Int) ≤ (i : Int) := by omega
  have hw : wrap64 ((i : Int) + 1) = ((i + 1 : Nat) : Int) := by rw [w64] <;> omega
  cases b
  ·obtain ⟨v,⟨K,hK⟩,hv⟩ := ih (i + 1) false (by omega)
   refine ⟨v,⟨K + 1,fun k hk => ?_⟩,hv⟩;obtain ⟨j,rfl⟩ : ∃ j,k = j + 1 := ⟨k - 1,by omega⟩;have h1 := hK j (by omega);show elfw_Check.l0 (j + 1) _ _ _ _ _ _ _ _ = _;rw [elfw_Check.l0];simp only [if_pos hlt,if_pos h0,hw,Bool.false_eq_true,if_false];exact h1
  obtain ⟨v,⟨K,hK⟩,hv⟩ := ih (i + 1) ((if sectV (rd_T72 secs (i : Int)) = true then (0 : Int) else 8) == 0) (by omega);refine ⟨v,⟨K + 4,fun k hk => ?_⟩,hv.1,fun e => ⟨rfl,(hv.2 e).2⟩⟩;obtain ⟨j,rfl⟩ : ∃ j,k = j + 4 := ⟨k - 4,by omega⟩;have h1 := hK (j + 3) (by omega);have h2 := sect_val j (rd_T72 secs (i : Int));show elfw_Check.l0 ((j + 3) + 1) _ _ _ _ _ _ _ _ = _;rw [elfw_Check.l0];simp only [if_pos hlt,if_pos h0,hw,if_true,h2,Option.bind_some];exact h1
theorem elf_tot (h : ObjFit secs syms relas groups) : ∃ v,TotV (fun k => elfw_Check.f k secs syms relas groups) v ∧ (v = 0 ∨ v = 8) ∧ (v = 0 → secs.length ≤ 16 ∧ symbolsV secs syms = true ∧ groupsV secs groups = true) := by
 obtain ⟨v,h1,h2,h3⟩ := ec_l0 h secs.length 0 (decide ((secs.length : Int) ≤ 16)) (by omega);exact ⟨v,h1,h2,fun e => ⟨by have := of_decide_eq_true (h3 e).1;omega,(h3 e).2⟩⟩
noncomputable def elfV (secs : List S72) (syms : List S40) (relas : List S94) (groups : List S68) : Int :=
 open Classical in if h : ∃ v,TotV (fun k => elfw_Check.f k secs syms relas groups) v then Classical.choose h else 8
theorem elf_val (h : ObjFit secs syms relas groups) : (∃ k,elfw_Check.f k secs syms relas groups = some (elfV secs syms relas groups)) ∧ (elfV secs syms relas groups = 0 ∨ elfV secs syms relas groups = 8) ∧ (elfV secs syms relas groups = 0 → secs.length ≤ 16 ∧ symbolsV secs syms = true ∧ groupsV secs groups = true) := by
 obtain ⟨v,hv,h8,h0⟩ := elf_tot h;have hex : ∃ v,TotV (fun k => elfw_Check.f k secs syms relas groups) v := ⟨v,hv⟩
 have he : elfV secs syms relas groups = v := by
  unfold elfV;rw [dif_pos hex];exact (Classical.choose_spec hex).uniq hv
 rw [he];exact ⟨hv.at,h8,h0⟩
end
end Go.Proofs.YtalomolellcefaaDoor.Q
namespace Go.Proofs.YtalomolellcefaaDoor.Q
open Go.RowKit Go.Proofs.YtalomolellcefaaDoorW.PrintWords
set_option maxHeartbeats 4000000 in
set_option maxRecDepth 100000 in
theorem mul_one_small (n : Nat) (hn : n ≤ 16) (w : World) : Calls Tryd.prog 37 #[.int .u64 1, .int .u64 (n : Int)] w fun e w' => e = .returned (.tuple #[.int .u64 0, .int .u64 (n : Int)]) ∧ Below w.heap.size w w' := by
 match n,hn with
 | 0,_ | 1,_ | 2,_ | 3,_ | 4,_ | 5,_ | 6,_ | 7,_ | 8,_ | 9,_ | 10,_ | 11,_ | 12,_ | 13,_ | 14,_ | 15,_ | 16,_ =>
  go_enter Tryd.func37,Tryd.ntmps37
  go_wp2
  all_goals go_ret2
  all_goals exact ⟨rfl,Below.refl _ _⟩
 | n + 17,h => exact absurd h (by omega)
end Go.Proofs.YtalomolellcefaaDoor.Q
namespace Go.Proofs.YtalomolellcefaaDoor.Q
open Go.RowKit Go.Proofs.YtalomolellcefaaDoorW.PrintWords Go.Proofs.YtalomolellcefaaDoor.Maps
def tf (k n : Nat) : List Value := List.replicate k (.bool true) ++ List.replicate (n - k) (.bool false)
theorem tf_length {k n : Nat} (h : k ≤ n) : (tf k n).length = n := by simp [tf];omega
theorem tf_splice {k m n : Nat} (h : k + m ≤ n) : splice (tf k n) k (List.replicate m (.bool true)) = tf (k + m) n := by
 unfold splice tf;rw [List.take_left' (by simp),List.length_replicate]
 have h1 : List.drop (k + m) (List.replicate k (Value.bool true) ++ List.replicate (n - k) (Value.bool false)) = List.replicate (n - (k + m)) (Value.bool false) := by
  rw [List.drop_append,List.drop_eq_nil_of_le (by simp),List.length_replicate,List.drop_replicate,List.nil_append]
  congr 1
  omega
 rw [h1];rw [← List.append_assoc,List.replicate_append_replicate]
theorem tf_all (n : Nat) : tf n n = List.replicate n (.bool true) := by simp [tf]
theorem tf_none (n : Nat) : tf 0 n = List.replicate n (.bool false) := by simp [tf]
theorem made_tf (n : Nat) : madeCells #[Value.bool false] n = (tf 0 n).toArray := by
 apply Array.ext_getElem?;intro i;rw [tf_none]
 by_cases h : i < n <;> simp [madeCells,h,Nat.mod_one]
theorem rep_get {m j : Nat} {v : Value} (h : (List.replicate m (Value.bool true))[j]? = some v) (hm : m ≤ 1) : j = 0 ∧ v = .bool true := by
 have h1 : j < m := by
  have := (List.getElem?_eq_some_iff.1 h).1;simpa using this
 have h2 : v = .bool true := by
  obtain ⟨h3,h4⟩ := List.getElem?_eq_some_iff.1 h;rw [← h4,List.getElem_replicate]
 exact ⟨by omega,h2⟩
theorem rep_get2 {m j : Nat} {v : Value} (h : (List.replicate m (Value.bool true))[j]? = some v) : j < m ∧ v = .bool true := by
 obtain ⟨h3,h4⟩ := List.getElem?_eq_some_iff.1 h;rw [List.getElem_replicate] at h4;exact ⟨by simpa using h3,h4.symm⟩
theorem tf_get {k n j : Nat} (h : j < k) : (tf k n)[j]? = some (.bool true) := by
 unfold tf;rw [List.getElem?_append_left (by simpa using h),List.getElem?_replicate,if_pos h]
theorem addr_mid0 (g j : Nat) : (⟨g,0,none⟩ : Addr).add j = ⟨g,j,none⟩ := by
 unfold Addr.add
 split
 ·simp_all
 simp
set_option maxHeartbeats 2000000 in
set_option maxRecDepth 100000 in
theorem repeat_calls (n : Nat) (hn : n ≤ 16) (ax : Addr) (cx : Nat) (w : World) (hx : w.cell? ax = some (.bool true)) (hxf : 1 ≤ cx) :
  Calls Tryd.prog 26 #[.slice (some ax) 1 cx, .int .i64 (n : Int)] w fun e w' => ∃ g : Nat,e = .returned (.slice (some ⟨g,0,none⟩) n n) ∧ w.heap.size ≤ g ∧ w'.heap[g]? = some (.cells (tf n n).toArray 4 (0,0)) ∧ Below w.heap.size w w' := by
 have hn0 : ¬ (n : Int) < 0 := by omega
 have HM := am0 (fun W => mul_one_small n hn W);have hw1 : IntKind.u64.wrap (n : Int) = (n : Int) := by unfold IntKind.wrap;simp [IntKind.bits,IntKind.signed];omega
 have hw2 : IntKind.i64.wrap (n : Int) = (n : Int) := IntWalk.i64_in _ (by omega);have hsz4 : (Tryd.prog.info? 4).map (·.size) = some 1 := by kernel_rfl
 have hmk := run_make_row' (P := Tryd.prog) 36 4 (.bool false) 1 Tryd.underlying36 info4 rfl .i64 .i64 n (by omega) (by omega);go_enter Tryd.func26,Tryd.ntmps26
 go_upto_region 7 with (first | (go_at_call 37;refine (HM.out _).mono ?_;rintro e w1 ⟨rfl,hb⟩;have HB := am0 hb;clear hb))
 generalize hw2 : World.alloc _ _ = w2;obtain ⟨hbox,hb⟩ := alloc_facts hw2;have GG := am0 (show w.heap.size ≤ w1.heap.size from below_size HB.out);replace HB := am0 (below_step HB.out hb);clear hw2 hb;generalize w1.heap.size = g at hbox GG ⊢;rw [made_tf] at hbox;have BK := am0 hbox;clear hbox hmk;have hx2 := cell_keep HB.out hx
 go_wp2_with (first
  | ((with_reducible refine gate_dst (N := 33) rfl ?_);refine wpList_copy_splice rfl (.tmp 31) (.tmp 32) 36 36 rfl 4 Tryd.underlying36 (by kernel_rfl) _ _ _ _ _ _ rfl rfl g 0 (tf 0 n) 4 BK.out (List.replicate (min 1 n) (.bool true)) (by simp) (fun h => ⟨rfl,ax,rfl,fun j v hv => by obtain ⟨rfl,rfl⟩ := rep_get hv (Nat.min_le_left 1 n);rw [addr_zero];exact hx2⟩) (by rw [tf_length (Nat.zero_le _),List.length_replicate];omega) (by intro v hv;rw [(List.mem_replicate.1 hv).2];rfl) w.heap.size w HB.out GG.out ?_;intro w3 hg3 hb3;rw [tf_splice (by omega)] at hg3;have BK3 := am0 hg3.out;have HB3 := am0 hb3;clear hg3 hb3))
 clear hx2;go_loopw [8] (fun v wr => ∃ k : Nat,(0 < n → 1 ≤ k) ∧ k ≤ n ∧ v = .int .i64 (k : Int) ∧ Aside0 (wr.heap[g]? = some (.cells (tf k n).toArray 4 (0,0))) ∧ Aside0 (Below w.heap.size w wr)) (fun v _ => n - (intOf v).toNat)
 case atStart => exact ⟨min 1 n,by omega,by omega,by simp,⟨by have := BK3.out;rwa [Nat.zero_add] at this⟩,HB3⟩
 case round =>
  clear BK HB BK3 HB3;obtain ⟨k,hk1,hkn,rfl,BK,HB⟩ := hrel
  by_cases hlt : k < n
  ·have g1 : (k : Int) < (n : Int) := by omega
   have g2 : (0 : Int) ≤ (k : Int) := by omega
   have g3 : (k : Int) ≤ (n : Int) := by omega
   have g4 : ¬ n = k := by omega
   have hd := below_drew1 (Below.refl wr.heap.size wr);have BKd := am0 (blk_below BK.out hd);have HBd := am0 (below_step HB.out hd);clear hd;have hm : k + min k (n - k) ≤ n := by omega
   go_wp2
   have hlen : (List.replicate (min k (n - k)) (Value.bool true)).length = Nat.min k (n - k) := List.length_replicate;have hfit : k + (List.replicate (min k (n - k)) (Value.bool true)).length ≤ (tf k n).length := by rw [tf_length (by omega),List.length_replicate];omega
   have hone : ∀ v ∈ List.replicate (min k (n - k)) (Value.bool true),v.oneCell' = true := by intro v hv;rw [(List.mem_replicate.1 hv).2];rfl
   have hsrc : ∀ j v,(List.replicate (min k (n - k)) (Value.bool true))[j]? = some v → wr.drew.cell? ((⟨g,0,none⟩ : Addr).add j) = some v := fun j v hv => by
    obtain ⟨h1,rfl⟩ := rep_get2 hv;rw [addr_mid0];exact (bx (vs := tf k n) BKd.out j (tf_get (by omega))).1
   have HLEN := am0 hlen;have HFIT := am0 hfit;have HONE := am0 hone;have HSRC := am0 hsrc;have HMM := am0 hm;clear hlen hfit hone hsrc hm;go_region_law (refine step_copy_splice rfl (.tmp 41) (.tmp 44) 36 36 rfl 4 Tryd.underlying36 hsz4 (some ⟨g,k,none⟩) (some ⟨g,0,none⟩) (n - k) (n - k) k n (by simp [Act.eval,Act.put]) (by simp [Act.eval,Act.put]) g k (tf k n) 4 BKd.out (List.replicate (min k (n - k)) (.bool true)) HLEN.out (fun _ => ⟨rfl,⟨g,0,none⟩,rfl,HSRC.out⟩) HFIT.out HONE.out w.heap.size w HBd.out GG.out ?_;intro w3 hg3 hb3;rw [tf_splice HMM.out] at hg3;have BK3 := am0 hg3.out;have HB3 := am0 hb3;clear hg3 hb3)
   have hww : IntKind.i64.wrap ((k : Int) + ((min k (n - k) : Nat) : Int)) = ((k + min k (n - k) : Nat) : Int) := by rw [IntWalk.i64_in _ (by omega)];omega
   simp only [Act.put,List.getElem_toArray,List.getElem_cons_succ,List.getElem_cons_zero,List.setIfInBounds_toArray,List.set_cons_zero,List.set_cons_succ,hww];have hm' := HMM.out;have hpos : 0 < min k (n - k) := by have := hk1 (by omega);omega
   go_wp2
   go_roundw
   case rel => exact ⟨k + min k (n - k),fun _ => by omega,hm',rfl,BK3,HB3⟩
   case measure => simp [intOf];omega
  have he : k = n := by omega
  subst he;have g1 : ¬ ((k : Int) < (k : Int)) := by omega
  go_wp2
  go_ret
  exact ⟨g,rfl,GG.out,BK.out,HB.out⟩
theorem drop_getB {l : List Bool} {i : Nat} (h : i < l.length) : l.drop i = rdOf false l (i : Int) :: l.drop (i + 1) := by
 rw [List.drop_eq_getElem_cons h]
 congr 1
 unfold rdOf;rw [Int.toNat_natCast,List.getD_eq_getElem?_getD,List.getElem?_eq_getElem h,Option.getD_some]
set_option maxHeartbeats 2000000 in
set_option maxRecDepth 100000 in
theorem equalB_calls (A B : Option Addr) (c d : Nat) (xs ys : List Bool) (w : World) (hx : Kd.bool.C w A xs.length xs) (hy : Kd.bool.C w B ys.length ys) :
  Calls Tryd.prog 27 #[.slice A xs.length c, .slice B ys.length d] w fun e w' => e = .returned (.bool (decide (xs = ys))) ∧ Below w.heap.size w w' := by
 have hbig := hx.2.1;have HX := am0 hx;have HY := am0 hy;clear hx hy;obtain ⟨V,hV⟩ : ∃ V,decide (xs = ys) = V := ⟨_,rfl⟩;rw [hV];have HV := am0 hV;clear hV;have HB := am0 (Below.refl w.heap.size w)
 by_cases hl : xs.length = ys.length
 ·have hl2 : (xs.length : Int) = (ys.length : Int) := by omega
  go_enter Tryd.func27,Tryd.ntmps27
  go_wp2
  go_loopw [13] (fun v wr => ∃ i : Nat,i ≤ xs.length ∧ v = .int .i64 (i : Int) ∧ Aside0 (decide (xs.drop i = ys.drop i) = V) ∧ Aside0 (Below w.heap.size w wr)) (fun v _ => xs.length - (intOf v).toNat)
  case atStart => exact ⟨0,by omega,rfl,by simpa using HV,HB⟩
  case round =>
   clear HB HV;obtain ⟨i,hi,rfl,HS,HB⟩ := hrel
   by_cases hlt : i < xs.length
   ·have g1 : (i : Int) < (xs.length : Int) := by omega
    have g2 : (i : Int) < (ys.length : Int) := by omega
    obtain ⟨a1,e1,y1⟩ := Kd.at_bool (Kd.C_below HX.out HB.out) (i : Int) (by omega) g1;obtain ⟨a2,e2,y2⟩ := Kd.at_bool (Kd.C_below HY.out HB.out) (i : Int) (by omega) g2;subst e1 e2;rw [show ((i : Int)).toNat = i from rfl] at y1 y2;have hs := HS.out;rw [drop_getB hlt,drop_getB (show i < ys.length by omega)] at hs;generalize rdOf false xs (i : Int) = x at y1 hs;generalize rdOf false ys (i : Int) = y at y2 hs;have HC := am0 (fun W (hW : Below wr.heap.size wr W) => And.intro (cell_keep hW y1) (cell_keep hW y2));clear y1 y2
    have hcase : (x = y ∧ decide (xs.drop (i + 1) = ys.drop (i + 1)) = V) ∨ (¬ x = y ∧ V = false) := by
     by_cases h : x = y
     ·subst h;exact .inl ⟨rfl,by rw [← hs];simp⟩
     exact .inr ⟨h,by rw [← hs];simp [h]⟩
    clear hs;rcases hcase with ⟨rfl,hs2⟩ | ⟨hne,rfl⟩
    ·have HS2 := am0 hs2
     clear hs2;have hn : (x != x) = false := by cases x <;> rfl
     have hn2 : (x == x) = true := by cases x <;> rfl
     iterate 1
      go_wp2
      refine region_lit (S := fun W => Below wr.heap.size wr W ∧ W.cell? (a1.add i) = some (.bool x) ∧ W.cell? (a2.add i) = some (.bool x)) (by kernel_rfl) (by kernel_rfl) (by kernel_rfl) ⟨below_drew1 (Below.refl wr.heap.size wr),HC.out _ (below_drew1 (Below.refl wr.heap.size wr))⟩ ?_
      repeat (first
       | (refine gl_skip (by rfl) ?_;simp only [Act.put,List.setIfInBounds_toArray,List.set_cons_zero,List.set_cons_succ])
       | (refine gl_val (v := ?_) (by rfl) ?_ ?_;rotate_left;(intro W hW;(try dsimp only at hW);go_simp;done);simp only [Act.put,List.setIfInBounds_toArray,List.set_cons_zero,List.set_cons_succ])
       | (refine gl_val (v := ?_) (by rfl) ?_ ?_;rotate_left;(intro W hW;(try dsimp only at hW);go_simp;with_reducible rfl);simp only [Act.put,List.setIfInBounds_toArray,List.set_cons_zero,List.set_cons_succ]))
      refine gl_nil (fun w4 hW => ?_);obtain ⟨hB,_⟩ := hW;have HB4 := am0 (below_step HB.out hB);clear hB;go_wp2
      go_roundw
      case rel => exact ⟨i + 1,by omega,by go_num,HS2,HB4⟩
      case measure => simp [intOf];omega
    have hn : (x != y) = true := by cases x <;> cases y <;> simp_all
    have hn2 : (x == y) = false := by cases x <;> cases y <;> simp_all
    iterate 1
     clear hne;go_wp2
     refine region_lit (S := fun W => Below wr.heap.size wr W ∧ W.cell? (a1.add i) = some (.bool x) ∧ W.cell? (a2.add i) = some (.bool y)) (by kernel_rfl) (by kernel_rfl) (by kernel_rfl) ⟨below_drew1 (Below.refl wr.heap.size wr),HC.out _ (below_drew1 (Below.refl wr.heap.size wr))⟩ ?_
     repeat (first
      | (refine gl_skip (by rfl) ?_;simp only [Act.put,List.setIfInBounds_toArray,List.set_cons_zero,List.set_cons_succ])
      | (refine gl_val (v := ?_) (by rfl) ?_ ?_;rotate_left;(intro W hW;(try dsimp only at hW);go_simp;done);simp only [Act.put,List.setIfInBounds_toArray,List.set_cons_zero,List.set_cons_succ])
      | (refine gl_val (v := ?_) (by rfl) ?_ ?_;rotate_left;(intro W hW;(try dsimp only at hW);go_simp;with_reducible rfl);simp only [Act.put,List.setIfInBounds_toArray,List.set_cons_zero,List.set_cons_succ]))
     refine gl_nil (fun w4 hW => ?_);obtain ⟨hB,_⟩ := hW;have HB4 := am0 (below_step HB.out hB);clear hB;go_wp2
     go_ret
     exact ⟨rfl,HB4.out⟩
   have he : i = xs.length := by omega
   subst he
   have hV : V = true := by
    have h1 := HS.out;rw [List.drop_length,hl,List.drop_length] at h1;simpa using h1.symm
   subst hV;have g1 : ¬ ((xs.length : Int) < (xs.length : Int)) := by omega
   go_wp2
   go_ret
   exact ⟨rfl,HB.out⟩
 have hl2 : ¬ (xs.length : Int) = (ys.length : Int) := by omega
 have hV : V = false := by rw [← HV.out];exact decide_eq_false (fun e => hl (by rw [e]))
 subst hV;go_enter Tryd.func27,Tryd.ntmps27
 go_wp2
 go_ret
 exact ⟨rfl,HB.out⟩
end Go.Proofs.YtalomolellcefaaDoor.Q
namespace Go.Proofs.YtalomolellcefaaDoor.Q
theorem secsGo_range (n : Int) : ∀ (l : List Int) (last : Int) (t t' : List Int),0 ≤ last → secsGo n l last t = some t' → ∀ x ∈ l,1 ≤ x ∧ x ≤ n
 | [],_,_,_,_,_,x,hx => by simp at hx
 | y :: l,last,t,t',h0,h,x,hx => by
  rw [secsGo] at h
  split at h
  ·cases h
  rename_i hno;have h1 : ¬ y ≤ last := fun e => hno (.inl e)
  have h2 : ¬ n < y := fun e => hno (.inr (.inl e))
  rcases List.mem_cons.1 hx with rfl | hx
  ·exact ⟨by omega,by omega⟩
  exact secsGo_range n l y (y :: t) t' (by omega) h x hx
theorem groupGo_range (n : Int) : ∀ (gs : List S68) (signs : List ByteArray) (t : List Int),groupGo n gs signs t = true → ∀ g ∈ gs, ∀ x ∈ g.f1,1 ≤ x ∧ x ≤ n
 | [],_,_,_,g,hg => by simp at hg
 | g0 :: gs,signs,t,h,g,hg => by
  rw [groupGo] at h
  split at h
  ·cases h
  split at h
  ·cases h
  split at h
  ·cases h
  split at h
  ·cases h
  rename_i t' ht;rcases List.mem_cons.1 hg with rfl | hg
  ·exact fun x hx => secsGo_range n _ 0 t t' (by omega) ht x hx
  exact groupGo_range n gs _ t' h g hg
theorem groupsV_range {secs : List S72} {gs : List S68} (h : groupsV secs gs = true) : ∀ g ∈ gs, ∀ x ∈ g.f1,1 ≤ x ∧ x ≤ (secs.length : Int) := by
 unfold groupsV at h;rw [Bool.and_eq_true] at h;exact groupGo_range _ gs [] [] h.1
end Go.Proofs.YtalomolellcefaaDoor.Q
namespace Go.Proofs.YtalomolellcefaaDoor.Q
open Go.RowKit Go.Proofs.YtalomolellcefaaDoorW.PrintWords Go.Proofs.YtalomolellcefaaDoorW.PrintLast Go.Proofs.YtalomolellcefaaDoorW.PrintMore Go.Proofs.YtalomolellcefaaDoor.Maps
def markSecs (b : Bool) (t : List Bool) (ns : List Int) : List Bool := ns.foldl (fun t n => t.set (n - 1).toNat b) t
def groupStep (i1 : Int) (st : (ByteArray → Option Int) × List Bool) (g : S68) : (ByteArray → Option Int) × List Bool :=
 let f := if (st.1 g.f0).getD 0 = 0 then upd st.1 g.f0 i1 else st.1
 (f,markSecs (decide ((f g.f0).getD 0 = i1)) st.2 g.f1)
def groupsRun (i1 : Int) (st : (ByteArray → Option Int) × List Bool) (gs : List S68) : (ByteArray → Option Int) × List Bool := gs.foldl (groupStep i1) st
noncomputable def keptElf (k : S38) : Int := elfV k.f2.f0 k.f2.f1 k.f2.f2 k.f2.f3
noncomputable def checkGo : List S38 → Nat → (ByteArray → Option Int) → Int
 | [],_,_ => 0
 | k :: l,i,f =>
  if keptElf k ≠ 0 ∨ k.f3.length ≠ k.f2.f0.length then 8
  else if (groupsRun ((i : Int) + 1) (f,List.replicate k.f3.length true) k.f2.f3).2 = k.f3 then checkGo l (i + 1) (groupsRun ((i : Int) + 1) (f,List.replicate k.f3.length true) k.f2.f3).1 else 8
theorem checkGo_bad {k : S38} {l : List S38} {i : Nat} {f : ByteArray → Option Int} (h : keptElf k ≠ 0 ∨ k.f3.length ≠ k.f2.f0.length) : checkGo (k :: l) i f = 8 := by rw [checkGo,if_pos h]
theorem checkGo_not {k : S38} {l : List S38} {i : Nat} {f : ByteArray → Option Int} (h : ¬ (keptElf k ≠ 0 ∨ k.f3.length ≠ k.f2.f0.length)) (h2 : ¬ (groupsRun ((i : Int) + 1) (f,List.replicate k.f3.length true) k.f2.f3).2 = k.f3) : checkGo (k :: l) i f = 8 := by rw [checkGo,if_neg h,if_neg h2]
theorem checkGo_ok {k : S38} {l : List S38} {i : Nat} {f : ByteArray → Option Int} (h : ¬ (keptElf k ≠ 0 ∨ k.f3.length ≠ k.f2.f0.length)) (h2 : (groupsRun ((i : Int) + 1) (f,List.replicate k.f3.length true) k.f2.f3).2 = k.f3) : checkGo (k :: l) i f = checkGo l (i + 1) (groupsRun ((i : Int) + 1) (f,List.replicate k.f3.length true) k.f2.f3).1 := by rw [checkGo,if_neg h,if_pos h2]
noncomputable def resCheckV (l : List S38) : Int := if 64 < l.length then 8 else checkGo l 0 (fun _ => none)
theorem blkC {w : World} {g n : Nat} {t : List Bool} (h : w.heap[g]? = some (.cells (t.map Value.bool).toArray n (0,0))) (hl : t.length ≤ 9223372036854775807) : Kd.bool.C w (some ⟨g,0,none⟩) t.length t := by
 refine ⟨rfl,hl,fun _ => ⟨_,rfl,fun j p hp => ⟨[.bool p],rfl,rfl,fun i u hu => ?_⟩⟩⟩
 have hi : i = 0 := by
  have := (List.getElem?_eq_some_iff.1 hu).1;simpa using this
 subst hi;obtain rfl : Value.bool p = u := by simpa using hu
 have he : (⟨g,0,none⟩ : Addr).add (j * Kd.bool.sz + 0) = ⟨g,j,none⟩ := by
  rw [show j * Kd.bool.sz + 0 = j from Nat.mul_one j];exact addr_mid0 g j
 rw [he];exact (bx (vs := t.map Value.bool) h j (by rw [List.getElem?_map,hp];rfl)).1
theorem setB {w : World} {g n : Nat} {t : List Bool} (h : w.heap[g]? = some (.cells (t.map Value.bool).toArray n (0,0))) (m : Nat) (b : Bool) : (w.setCell ⟨g,m,none⟩ (.bool b)).heap[g]? = some (.cells ((t.set m b).map Value.bool).toArray n (0,0)) :=
 blk_put h m (.bool b) (by simp [List.map_set])
def KeptFit (k : S38) : Prop := ObjFit k.f2.f0 k.f2.f1 k.f2.f2 k.f2.f3
noncomputable def resolve_Check.f (l0 : List (S38)) : Option (Int) := open Classical in if (∀ k ∈ l0,KeptFit k) then some (resCheckV l0) else none
set_option maxHeartbeats 2000000 in
set_option maxRecDepth 100000 in
theorem resolve_Check.calls (A0 : Option Addr) (c0 : Nat) (l0 : List (S38)) (r : Int) (w : World) (hr0 : Kd.C k38 w A0 l0.length l0) (hc0 : l0.length ≤ c0) (h : resolve_Check.f l0 = some r) :
  Calls Tryd.prog 19 #[.slice A0 l0.length c0] w fun e w' => e = .returned (.int .i64 r) ∧ Below w.heap.size w w' := by
 have hu35 := Tryd.underlying35;have hu38 := Tryd.underlying38;have hu68 := Tryd.underlying68
 obtain ⟨hfit,hR⟩ : (∀ k ∈ l0,KeptFit k) ∧ resCheckV l0 = r := by
  unfold resolve_Check.f at h
  split at h
  ·exact ⟨by assumption,Option.some.inj h⟩
  cases h
 clear h;have HF := am0 hfit;have HC := am0 hr0;have HB := am0 (Below.refl w.heap.size w);clear hfit hr0
 by_cases h64 : 64 < l0.length
 ·have hb : (64 : Int) < (l0.length : Int) := by omega
  have HR := am0 (show (8 : Int) = r by rw [← hR,resCheckV,if_pos h64]);clear hR;go_enter Tryd.func19,Tryd.ntmps19
  go_wp2
  go_ret
  exact ⟨by rw [← HR.out];rfl,HB.out⟩
 have hb : ¬ (64 : Int) < (l0.length : Int) := by omega
 have HR := am0 (show checkGo l0 0 (fun _ => none) = r by rw [← hR,resCheckV,if_neg h64]);clear hR;have KL : Go.Maps.Keyed Tryd.prog 9 := Go.Maps.string_keyed Tryd.underlying9;go_enter Tryd.func19,Tryd.ntmps19
 go_wp2_with (first
  | ((with_reducible refine gate_dst (N := 14) rfl ?_);refine map_event rfl _ 9 slit (Value.int .i64) rfl ?_;intro mb hg w2 hm hb;have M1 := am0 hm;have GM := am0 (show w.heap.size ≤ mb by rw [hg];exact below_size HB.out);replace HB := am0 (below_step HB.out hb);clear hm hb hg))
 go_loopw [17] (fun vi wr => ∃ (i : Nat) (f : ByteArray → Option Int) (n1 : Nat),i ≤ l0.length ∧ vi = .int .i64 (i : Int) ∧ Aside0 (checkGo (l0.drop i) i f = r) ∧ Aside0 (MapIs Tryd.prog 9 slit (Value.int .i64) wr mb n1 f) ∧ Aside0 (n1 ≤ i * 1099511627776) ∧ Aside0 (Below w.heap.size w wr)) (fun vi _ => l0.length - (intOf vi).toNat)
 case atStart => exact ⟨0,_,0,by omega,rfl,by simpa using HR,M1,⟨by omega⟩,HB⟩
 case round =>
  clear M1 HB HR;obtain ⟨i,f,n1,hi,rfl,HS,M1,HN,HB⟩ := hrel
  by_cases hlt : i < l0.length
  ·obtain ⟨ad,A2,c2,A3,c3,A4,c4,A5,c5,A6,c6,eA,x0,x1,x2,x3,x4,x5,x6,q⟩ := at_T38 HC.out (i : Int) (by omega) (by omega)
   subst eA;rw [show ((i : Int)).toNat = i from rfl] at x0 x1 x2 x3 x4 x5 x6;replace x0 := cell_keep HB.out x0;replace x1 := cell_keep HB.out x1;replace x2 := cell_keep HB.out x2;replace x3 := cell_keep HB.out x3;replace x4 := cell_keep HB.out x4;replace x5 := cell_keep HB.out x5;replace x6 := cell_keep HB.out x6;have hnum : (i : Int) < (l0.length : Int) := by omega
   have Q := am0 q;clear q;go_upto_region 7 with (fail)
   clear x0 x1 x2 x3 x4 x5 x6;generalize hw3 : World.alloc _ _ = w3;obtain ⟨hbox,hb⟩ := alloc_facts hw3;have NS := am0 (show mb ≠ wr.heap.size from Nat.ne_of_lt M1.out.lt);have GS := am0 (show w.heap.size ≤ wr.heap.size from below_size HB.out);clear hw3;generalize wr.heap.size = sb at hbox NS GS ⊢;have BS := am0 hbox;replace M1 := am0 (M1.out.below hb);replace HB := am0 (below_step HB.out hb);clear hbox hb;have hdrop : l0.drop i = rd_T38 l0 (i : Int) :: l0.drop (i + 1) := drop_get z38 hlt
   have hmem : rd_T38 l0 (i : Int) ∈ l0 := by
    have : rd_T38 l0 (i : Int) ∈ l0.drop i := by rw [hdrop];exact List.mem_cons_self
    exact List.mem_of_mem_drop this
   have hfit := HF.out _ hmem;have hpure := HS.out;rw [hdrop] at hpure;have hq := Q.out;clear hmem hdrop HS Q;generalize rd_T38 l0 (i : Int) = kk at BS hpure hfit hq ⊢;obtain ⟨k0,k1,⟨secs,syms,relas,groups⟩,sects⟩ := kk
   dsimp only [KeptFit] at BS hfit hq ⊢;obtain ⟨hE,h8,h0⟩ := elf_val hfit;obtain ⟨kE,hE⟩ := hE;obtain ⟨l2,g2,l3,g3,l4,g4,l5,g5,l6,g6⟩ := hq;have HQ := am0 (fun W (hW : Below w.heap.size w W) => elfw_Check.calls kE A2 c2 secs A3 c3 syms A4 c4 relas A5 c5 groups _ W (Kd.C_below g2 hW) l2 (Kd.C_below g3 hW) l3 (Kd.C_below g4 hW) l4 (Kd.C_below g5 hW) l5 hE);have G5 := am0 g5;have G6 := am0 g6;have H0 := am0 h0;have HP := am0 hpure;have HG := am0 hfit.2.2.2.2;obtain ⟨q2,_⟩ := bx (vs := [.int .i64 k0, .int .i64 k1, .slice A2 secs.length c2, .slice A3 syms.length c3, .slice A4 relas.length c4, .slice A5 groups.length c5, .slice A6 sects.length c6]) BS.out 2 rfl;obtain ⟨q3,_⟩ := bx (vs := [.int .i64 k0, .int .i64 k1, .slice A2 secs.length c2, .slice A3 syms.length c3, .slice A4 relas.length c4, .slice A5 groups.length c5, .slice A6 sects.length c6]) BS.out 3 rfl;obtain ⟨q4,_⟩ := bx (vs := [.int .i64 k0, .int .i64 k1, .slice A2 secs.length c2, .slice A3 syms.length c3, .slice A4 relas.length c4, .slice A5 groups.length c5, .slice A6 sects.length c6]) BS.out 4 rfl;obtain ⟨q5,_⟩ := bx (vs := [.int .i64 k0, .int .i64 k1, .slice A2 secs.length c2, .slice A3 syms.length c3, .slice A4 relas.length c4, .slice A5 groups.length c5, .slice A6 sects.length c6]) BS.out 5 rfl;clear g2 g3 g4 g5 g6 l2 l3 l4 h0 hpure hfit hE;rcases h8 with hev | hev
   ·rw [hev] at HQ
    obtain ⟨h16,_,hgr⟩ := H0.out hev;have HGR := am0 hgr;clear hgr H0
    by_cases hlen : sects.length = secs.length
    ·have hln : (sects.length : Int) = (secs.length : Int) := by omega
     have HNO := am0 (show ¬ (keptElf ⟨k0,k1,⟨secs,syms,relas,groups⟩,sects⟩ ≠ 0 ∨ sects.length ≠ secs.length) from by rintro (h | h);exact h hev;exact h hlen);obtain ⟨q6,_⟩ := bx (vs := [.int .i64 k0, .int .i64 k1, .slice A2 secs.length c2, .slice A3 syms.length c3, .slice A4 relas.length c4, .slice A5 groups.length c5, .slice A6 sects.length c6]) BS.out 6 rfl;clear hev
     go_upto_region 9 with (first
      | (go_at_call 25;refine (HQ.out _ HB.out).mono ?_;rintro e w4 ⟨rfl,hb⟩;have HB4 := am0 (below_step HB.out hb);have M14 := am0 (M1.out.below hb);have BS4 := am0 (blk_below BS.out hb);clear hb q2 q3 q4 q5 q6;obtain ⟨q2,_⟩ := bx (vs := [.int .i64 k0, .int .i64 k1, .slice A2 secs.length c2, .slice A3 syms.length c3, .slice A4 relas.length c4, .slice A5 groups.length c5, .slice A6 sects.length c6]) BS4.out 2 rfl;obtain ⟨q6,_⟩ := bx (vs := [.int .i64 k0, .int .i64 k1, .slice A2 secs.length c2, .slice A3 syms.length c3, .slice A4 relas.length c4, .slice A5 groups.length c5, .slice A6 sects.length c6]) BS4.out 6 rfl))
     have HNW := am0 (fun (W : World) (n : Nat) (hn : n ≤ 16) (ax : Addr) (hx : W.cell? ax = some (.bool true)) => repeat_calls n hn ax 1 W hx (Nat.le_refl 1))
     go_wp2_with (first
      | ((with_reducible refine gate_dst (N := 36) rfl ?_);refine alloc_event rfl (v := fun g => .slice (some ⟨g,0,none⟩) 1 1) (ob := .cells #[.bool true] 4 (0,0)) ?hrun ?_;(case hrun => first | (go_simp;done) | (go_simp;rfl));intro tb hg w5 hbox hb;have TB := am0 hbox;have HB5 := am0 (below_step HB4.out hb);have M15 := am0 (M14.out.below hb);have BS5 := am0 (blk_below BS4.out hb);clear hb hg hbox q2 q6;obtain ⟨q6,_⟩ := bx (vs := [.int .i64 k0, .int .i64 k1, .slice A2 secs.length c2, .slice A3 syms.length c3, .slice A4 relas.length c4, .slice A5 groups.length c5, .slice A6 sects.length c6]) BS5.out 6 rfl;have TC := am0 (bx (vs := [.bool true]) TB.out 0 rfl).1)
      | (go_at_call 26;refine (HNW.out _ secs.length h16 _ TC.out).mono ?_;rintro e w6 ⟨g,rfl,hgw,hbk,hb⟩;have GG := am0 (Nat.le_trans (below_size HB5.out) hgw);have NMG := am0 (show mb ≠ g from Nat.ne_of_lt (Nat.lt_of_lt_of_le M15.out.lt hgw));have NSG := am0 (show sb ≠ g from Nat.ne_of_lt (Nat.lt_of_lt_of_le (blk_lt BS5.out) hgw));have TK := am0 hbk;have HB6 := am0 (below_step HB5.out hb);have M16 := am0 (M15.out.below hb);have BS6 := am0 (blk_below BS5.out hb);clear hb hgw hbk q6;obtain ⟨q5,_⟩ := bx (vs := [.int .i64 k0, .int .i64 k1, .slice A2 secs.length c2, .slice A3 syms.length c3, .slice A4 relas.length c4, .slice A5 groups.length c5, .slice A6 sects.length c6]) BS6.out 5 rfl))
     clear q5;have HIN : Aside0 (groupsRun ((i : Int) + 1) (f,List.replicate secs.length true) groups = groupsRun ((i : Int) + 1) (f,List.replicate secs.length true) groups) := ⟨rfl⟩;obtain ⟨ST,hST⟩ : ∃ ST,groupsRun ((i : Int) + 1) (f,List.replicate secs.length true) groups = ST := ⟨_,rfl⟩;have HST := am0 hST;have HST0 := am0 hST;clear hST HIN TB TC M14 M15 BS4 BS5 HB4 HB5 M1 BS HB
     have HGL := am0 (show groups.length < 1099511627776 ∧ (∀ g ∈ groups,g.f0.size < 1099511627776) by
      have h := HG.out;simp only [groupsFit,Bool.and_eq_true,decide_eq_true_eq,List.all_eq_true] at h;exact ⟨h.1.1,fun g hg => (h.2 g hg).1⟩)
     have hglen := HGL.out.1;go_loopw [45] (fun vj wk => ∃ (j : Nat) (f2 : ByteArray → Option Int) (t : List Bool) (n2 : Nat),j ≤ groups.length ∧ vj = .int .i64 (j : Int) ∧ Aside0 (groupsRun ((i : Int) + 1) (f2,t) (groups.drop j) = ST) ∧ Aside0 (MapIs Tryd.prog 9 slit (Value.int .i64) wk mb n2 f2) ∧ Aside0 (n2 ≤ n1 + j) ∧ Aside0 (t.length = secs.length) ∧ Aside0 (wk.heap[g]? = some (.cells (t.map Value.bool).toArray 4 (0,0))) ∧ Aside0 (wk.heap[sb]? = some (.cells #[.int .i64 k0, .int .i64 k1, .slice A2 secs.length c2, .slice A3 syms.length c3, .slice A4 relas.length c4, .slice A5 groups.length c5, .slice A6 sects.length c6] 38 (0,0))) ∧ Aside0 (Below w.heap.size w wk)) (fun vj _ => groups.length - (intOf vj).toNat)
     case atStart => exact ⟨0,f,List.replicate secs.length true,n1,by omega,rfl,HST,M16,⟨by omega⟩,⟨List.length_replicate⟩,⟨by rw [List.map_replicate, ← tf_all];exact TK.out⟩,BS6,HB6⟩
     case round =>
      clear M16 TK BS6 HB6 HST;obtain ⟨j,f2,t,n2,hj,rfl,HST,M1,HN2,HTL,TK,BS,HB⟩ := hrel
      by_cases hlj : j < groups.length
      ·obtain ⟨ad5,A7,c7,e5,x0,x1,l7,g7⟩ := at_T68 G5.out (j : Int) (by omega) (by omega)
       subst e5;rw [show ((j : Int)).toNat = j from rfl] at x0 x1;replace x0 := cell_keep HB.out x0;replace x1 := cell_keep HB.out x1;have hnj : (j : Int) < (groups.length : Int) := by omega
       go_upto_region 13 with (fail)
       clear x0 x1;generalize hw3 : World.alloc _ _ = w8;obtain ⟨hbox,hb⟩ := alloc_facts hw3;have NB := am0 (show mb ≠ wr.heap.size from Nat.ne_of_lt M1.out.lt);have NT := am0 (show g ≠ wr.heap.size from Nat.ne_of_lt (blk_lt TK.out));have NBS := am0 (show sb ≠ wr.heap.size from Nat.ne_of_lt (blk_lt BS.out));have GB0 := am0 (show w.heap.size ≤ wr.heap.size from below_size HB.out);clear hw3;generalize wr.heap.size = gb at hbox NB NT NBS GB0 ⊢;have GB := am0 hbox;replace M1 := am0 (M1.out.below hb);replace TK := am0 (blk_below TK.out hb);replace BS := am0 (blk_below BS.out hb);replace HB := am0 (below_step HB.out hb);clear hbox hb;have hdk : groups.drop j = rd_T68 groups (j : Int) :: groups.drop (j + 1) := drop_get z68 hlj
       have hmem : rd_T68 groups (j : Int) ∈ groups := by
        have : rd_T68 groups (j : Int) ∈ groups.drop j := by rw [hdk];exact List.mem_cons_self
        exact List.mem_of_mem_drop this
       have hs0 := HGL.out.2 _ hmem;have hxr := groupsV_range HGR.out _ hmem;have hst := HST.out;rw [hdk] at hst;have G7 := am0 g7;clear hmem hdk HST g7;generalize rd_T68 groups (j : Int) = gg at GB hs0 hxr hst G7 l7 ⊢;obtain ⟨s0,xs⟩ := gg
       dsimp only at GB hs0 hxr G7 l7 ⊢;replace hst : groupsRun ((i : Int) + 1) (groupStep ((i : Int) + 1) (f2,t) ⟨s0,xs⟩) (groups.drop (j + 1)) = ST := hst;have HST := am0 hst;have HXR := am0 hxr;have hxl : (xs.length : Nat) ≤ 9223372036854775807 := G7.out.2.1;have KEY := am0 (WideMaps.keyOf_string_mk (P := Tryd.prog) Tryd.underlying9 (s := s0) (by simp only [maxLen];omega));have hi64 : i < 64 := by omega
       have hi1 : IntKind.i64.wrap ((i : Int) + 1) = (i : Int) + 1 := IntWalk.i64_in _ (by omega);clear hst hxr hs0;obtain ⟨p0,_⟩ := bx (vs := [.string s0, .slice A7 xs.length c7]) GB.out 0 rfl
       by_cases hc : (f2 s0).getD 0 = 0
       ·have hm2 : n2 < maxLen := by have h1 := HN2.out;have h2 := HN.out;simp only [maxLen];omega
        have HC0 := am0 hc;clear hc
        go_wp2_with (first
         | ((with_reducible refine gate_dst (N := 52) rfl ?_);refine wpList_look _ rfl (.tmp 49) (.tmp 51) 56 rfl (K := 9) (e := 3) slit (Value.int .i64) (Go.Proofs.YtalomolellcefaaDoor.Maps.int_inj IntKind.i64) KL Tryd.underlying56 0 (Tryd.zeroValue3 _) mb n2 f2 rfl M1.out (.string s0) s0 rfl KEY.out ?_;rw [HC0.out])
         | (refine wpList_put _ rfl (.tmp 54) (.tmp 56) (.tmp 58) 56 rfl (K := 9) (e := 3) slit slit_inj (Value.int .i64) (Go.Proofs.YtalomolellcefaaDoor.Maps.int_inj IntKind.i64) KL Tryd.underlying56 mb n2 hm2 f2 rfl M1.out (.string s0) s0 rfl KEY.out ((i : Int) + 1) rfl ?_;intro w9 hM hgr;have M19 := am0 hM;have TK9 := am0 (blk_grown TK.out hgr (by intro h;exact NMG.out (Option.some.inj h).symm));have BS9 := am0 (blk_grown BS.out hgr (by intro h;exact NS.out (Option.some.inj h).symm));have GB9 := am0 (blk_grown GB.out hgr (by intro h;exact NB.out (Option.some.inj h).symm));have HB9 := am0 (ev_grown HB.out hgr (by intro b hb;cases hb;exact GM.out));clear p0;obtain ⟨p0,_⟩ := bx (vs := [.string s0, .slice A7 xs.length c7]) GB9.out 0 rfl;obtain ⟨p1,_⟩ := bx (vs := [.string s0, .slice A7 xs.length c7]) GB9.out 1 rfl;clear hM hgr))
        obtain ⟨b3,hb3⟩ : ∃ b : Bool,decide (((upd f2 s0 ((i : Int) + 1)) s0).getD 0 = (i : Int) + 1) = b := ⟨_,rfl⟩;obtain ⟨MS,hMS⟩ : ∃ MS,markSecs b3 t xs = MS := ⟨_,rfl⟩;have HMS := am0 hMS;have HB3 := am0 hb3;have HMS0 := am0 hMS;obtain ⟨F3,hF3⟩ : ∃ F,upd f2 s0 ((i : Int) + 1) = F := ⟨_,rfl⟩;have HM3 := M19;rw [hF3] at HM3 HB3;have HF3 := am0 hF3;clear hMS hb3 hF3;go_loopw [62] (fun vq wq => ∃ (q : Nat) (t3 : List Bool),q ≤ xs.length ∧ vq = .int .i64 (q : Int) ∧ Aside0 (markSecs b3 t3 (xs.drop q) = MS) ∧ Aside0 (MapIs Tryd.prog 9 slit (Value.int .i64) wq mb (n2 + 1) F3) ∧ Aside0 (t3.length = secs.length) ∧ Aside0 (wq.heap[g]? = some (.cells (t3.map Value.bool).toArray 4 (0,0))) ∧ Aside0 (wq.heap[sb]? = some (.cells #[.int .i64 k0, .int .i64 k1, .slice A2 secs.length c2, .slice A3 syms.length c3, .slice A4 relas.length c4, .slice (some ad5) groups.length c5, .slice A6 sects.length c6] 38 (0,0))) ∧ Aside0 (wq.heap[gb]? = some (.cells #[.string s0, .slice A7 xs.length c7] 68 (0,0))) ∧ Aside0 (Below w.heap.size w wq)) (fun vq _ => xs.length - (intOf vq).toNat)
        case atStart => exact ⟨0,t,by omega,rfl,HMS,HM3,HTL,TK9,BS9,GB9,HB9⟩
        case round =>
         clear HMS HM3 HTL;obtain ⟨q,t3,hq,rfl,HMS,M3,HTL,TK3,BS3,GB3,HB3'⟩ := hrel
         by_cases hlq : q < xs.length
         ·obtain ⟨ad7,e7,y0⟩ := Kd.at_int (Kd.C_below G7.out HB3'.out) (q : Int) (by omega) (by omega)
          subst e7;rw [show ((q : Int)).toNat = q from rfl] at y0;have hnq : (q : Int) < (xs.length : Int) := by omega
          have hdq : xs.drop q = rd xs (q : Int) :: xs.drop (q + 1) := drop_get 0 hlq
          have hmx : rd xs (q : Int) ∈ xs := by
           have : rd xs (q : Int) ∈ xs.drop q := by rw [hdq];exact List.mem_cons_self
           exact List.mem_of_mem_drop this
          have hrx := HXR.out _ hmx;have hms := HMS.out;rw [hdq] at hms;clear hmx hdq;generalize rd xs (q : Int) = x at y0 hrx hms;obtain ⟨m,rfl⟩ : ∃ m : Nat,x = (m : Int) + 1 := ⟨(x - 1).toNat,by omega⟩;have hml : m < secs.length := by omega
          have htl := HTL.out;replace hms : markSecs b3 (t3.set ((m : Int) + 1 - 1).toNat b3) (xs.drop (q + 1)) = MS := hms;rw [show ((m : Int) + 1 - 1).toNat = m by omega] at hms;have HMS2 := am0 hms;have hsub : IntKind.i64.wrap (m : Int) = (m : Int) := IntWalk.i64_in _ (by omega);have hmi : (m : Int) < (secs.length : Int) := by omega
          obtain ⟨cm,fm⟩ := bx (vs := t3.map Value.bool) TK3.out m (v := .bool (t3.getD m false)) (by rw [List.getElem?_map,List.getD_eq_getElem?_getD,List.getElem?_eq_getElem (by omega)];rfl);obtain ⟨p0,_⟩ := bx (vs := [.string s0, .slice (some ad7) xs.length c7]) GB3.out 0 rfl;have hbq : ((F3 s0).getD 0 == (i : Int) + 1) = b3 := by rw [← HB3.out];exact (Bool.beq_eq_decide_eq _ _)
          clear hms hrx
          go_wp2_with (first
           | ((with_reducible refine gate_dst (N := 72) rfl ?_);refine wpList_look _ rfl (.tmp 69) (.tmp 71) 56 rfl (K := 9) (e := 3) slit (Value.int .i64) (Go.Proofs.YtalomolellcefaaDoor.Maps.int_inj IntKind.i64) KL Tryd.underlying56 0 (Tryd.zeroValue3 _) mb (n2 + 1) F3 rfl M3.out (.string s0) s0 rfl KEY.out ?_))
          go_roundw
          case rel => exact ⟨q + 1,t3.set m b3,by omega,by go_num,HMS2,⟨M3.out.setCell (a := ⟨g,m,none⟩) NMG.out _⟩,⟨by rw [List.length_set];exact htl⟩,⟨setB TK3.out m b3⟩,⟨blk_far BS3.out NSG.out _⟩,⟨blk_far GB3.out (fun h => NT.out h.symm) _⟩,⟨below_set HB3'.out GG.out⟩⟩
          case measure => simp [intOf];omega
         have he : q = xs.length := by omega
         subst he;have hms := HMS.out;rw [List.drop_length] at hms;replace hms : t3 = MS := hms;have hnq : ¬ ((xs.length : Int) < (xs.length : Int)) := by omega
         have HST2 := am0 (show groupsRun ((i : Int) + 1) (F3,t3) (groups.drop (j + 1)) = ST by
          rw [← HST.out]
          congr 1
          unfold groupStep;rw [hms, ← HMS0.out, ← HB3.out, ← HF3.out];simp only [HC0.out,if_true])
         go_wp2
         go_roundw
         case rel => exact ⟨j + 1,F3,t3,n2 + 1,by omega,by go_num,HST2,M3,⟨by have := HN2.out;omega⟩,HTL,TK3,BS3,HB3'⟩
         case measure => simp [intOf];omega
       have HC0 := am0 hc;have hcb : ((f2 s0).getD 0 == 0) = false := by simpa using hc
       obtain ⟨p1,_⟩ := bx (vs := [.string s0, .slice A7 xs.length c7]) GB.out 1 rfl
       go_wp2_with (first
        | ((with_reducible refine gate_dst (N := 52) rfl ?_);refine wpList_look _ rfl (.tmp 49) (.tmp 51) 56 rfl (K := 9) (e := 3) slit (Value.int .i64) (Go.Proofs.YtalomolellcefaaDoor.Maps.int_inj IntKind.i64) KL Tryd.underlying56 0 (Tryd.zeroValue3 _) mb n2 f2 rfl M1.out (.string s0) s0 rfl KEY.out ?_;skip))
       obtain ⟨b3,hb3⟩ : ∃ b : Bool,decide (((f2) s0).getD 0 = (i : Int) + 1) = b := ⟨_,rfl⟩;obtain ⟨MS,hMS⟩ : ∃ MS,markSecs b3 t xs = MS := ⟨_,rfl⟩;have HMS := am0 hMS;have HB3 := am0 hb3;have HMS0 := am0 hMS;obtain ⟨F3,hF3⟩ : ∃ F,f2 = F := ⟨_,rfl⟩;have HM3 := M1;rw [hF3] at HM3 HB3;have HF3 := am0 hF3;clear hMS hb3 hF3;go_loopw [62] (fun vq wq => ∃ (q : Nat) (t3 : List Bool),q ≤ xs.length ∧ vq = .int .i64 (q : Int) ∧ Aside0 (markSecs b3 t3 (xs.drop q) = MS) ∧ Aside0 (MapIs Tryd.prog 9 slit (Value.int .i64) wq mb (n2) F3) ∧ Aside0 (t3.length = secs.length) ∧ Aside0 (wq.heap[g]? = some (.cells (t3.map Value.bool).toArray 4 (0,0))) ∧ Aside0 (wq.heap[sb]? = some (.cells #[.int .i64 k0, .int .i64 k1, .slice A2 secs.length c2, .slice A3 syms.length c3, .slice A4 relas.length c4, .slice (some ad5) groups.length c5, .slice A6 sects.length c6] 38 (0,0))) ∧ Aside0 (wq.heap[gb]? = some (.cells #[.string s0, .slice A7 xs.length c7] 68 (0,0))) ∧ Aside0 (Below w.heap.size w wq)) (fun vq _ => xs.length - (intOf vq).toNat)
       case atStart => exact ⟨0,t,by omega,rfl,HMS,HM3,HTL,TK,BS,GB,HB⟩
       case round =>
        clear HMS HM3 HTL;obtain ⟨q,t3,hq,rfl,HMS,M3,HTL,TK3,BS3,GB3,HB3'⟩ := hrel
        by_cases hlq : q < xs.length
        ·obtain ⟨ad7,e7,y0⟩ := Kd.at_int (Kd.C_below G7.out HB3'.out) (q : Int) (by omega) (by omega)
         subst e7;rw [show ((q : Int)).toNat = q from rfl] at y0;have hnq : (q : Int) < (xs.length : Int) := by omega
         have hdq : xs.drop q = rd xs (q : Int) :: xs.drop (q + 1) := drop_get 0 hlq
         have hmx : rd xs (q : Int) ∈ xs := by
          have : rd xs (q : Int) ∈ xs.drop q := by rw [hdq];exact List.mem_cons_self
          exact List.mem_of_mem_drop this
         have hrx := HXR.out _ hmx;have hms := HMS.out;rw [hdq] at hms;clear hmx hdq;generalize rd xs (q : Int) = x at y0 hrx hms;obtain ⟨m,rfl⟩ : ∃ m : Nat,x = (m : Int) + 1 := ⟨(x - 1).toNat,by omega⟩;have hml : m < secs.length := by omega
         have htl := HTL.out;replace hms : markSecs b3 (t3.set ((m : Int) + 1 - 1).toNat b3) (xs.drop (q + 1)) = MS := hms;rw [show ((m : Int) + 1 - 1).toNat = m by omega] at hms;have HMS2 := am0 hms;have hsub : IntKind.i64.wrap (m : Int) = (m : Int) := IntWalk.i64_in _ (by omega);have hmi : (m : Int) < (secs.length : Int) := by omega
         obtain ⟨cm,fm⟩ := bx (vs := t3.map Value.bool) TK3.out m (v := .bool (t3.getD m false)) (by rw [List.getElem?_map,List.getD_eq_getElem?_getD,List.getElem?_eq_getElem (by omega)];rfl);obtain ⟨p0,_⟩ := bx (vs := [.string s0, .slice (some ad7) xs.length c7]) GB3.out 0 rfl;have hbq : ((F3 s0).getD 0 == (i : Int) + 1) = b3 := by rw [← HB3.out];exact (Bool.beq_eq_decide_eq _ _)
         clear hms hrx
         go_wp2_with (first
          | ((with_reducible refine gate_dst (N := 72) rfl ?_);refine wpList_look _ rfl (.tmp 69) (.tmp 71) 56 rfl (K := 9) (e := 3) slit (Value.int .i64) (Go.Proofs.YtalomolellcefaaDoor.Maps.int_inj IntKind.i64) KL Tryd.underlying56 0 (Tryd.zeroValue3 _) mb (n2) F3 rfl M3.out (.string s0) s0 rfl KEY.out ?_))
         go_roundw
         case rel => exact ⟨q + 1,t3.set m b3,by omega,by go_num,HMS2,⟨M3.out.setCell (a := ⟨g,m,none⟩) NMG.out _⟩,⟨by rw [List.length_set];exact htl⟩,⟨setB TK3.out m b3⟩,⟨blk_far BS3.out NSG.out _⟩,⟨blk_far GB3.out (fun h => NT.out h.symm) _⟩,⟨below_set HB3'.out GG.out⟩⟩
         case measure => simp [intOf];omega
        have he : q = xs.length := by omega
        subst he;have hms := HMS.out;rw [List.drop_length] at hms;replace hms : t3 = MS := hms;have hnq : ¬ ((xs.length : Int) < (xs.length : Int)) := by omega
        have HST2 := am0 (show groupsRun ((i : Int) + 1) (F3,t3) (groups.drop (j + 1)) = ST by
         rw [← HST.out]
         congr 1
         unfold groupStep;rw [hms, ← HMS0.out, ← HB3.out, ← HF3.out];simp only [if_neg HC0.out])
        go_wp2
        go_roundw
        case rel => exact ⟨j + 1,F3,t3,n2,by omega,by go_num,HST2,M3,⟨by have := HN2.out;omega⟩,HTL,TK3,BS3,HB3'⟩
        case measure => simp [intOf];omega
      have he : j = groups.length := by omega
      subst he;have hnj : ¬ ((groups.length : Int) < (groups.length : Int)) := by omega
      have hst := HST.out;rw [List.drop_length] at hst;replace hst : (f2,t) = ST := hst;subst hst;have htl := HTL.out;have HEQ := am0 (fun (W : World) (hW : Below wr.heap.size wr W) (hw2 : Below w.heap.size w W) => equalB_calls (some ⟨g,0,none⟩) A6 secs.length c6 t sects W (Kd.C_below (blkC TK.out (by omega)) hW) (Kd.C_below G6.out hw2));obtain ⟨q6,_⟩ := bx (vs := [.int .i64 k0, .int .i64 k1, .slice A2 secs.length c2, .slice A3 syms.length c3, .slice A4 relas.length c4, .slice A5 groups.length c5, .slice A6 sects.length c6]) BS.out 6 rfl;rw [htl,hlen] at HEQ;have hrun : groupsRun ((i : Int) + 1) (f,List.replicate sects.length true) groups = (f2,t) := by rw [hlen];exact HST0.out
      have HRUN := am0 hrun;clear hrun HST HST0
      by_cases heq : t = sects
      ·have HS := am0 (show checkGo (l0.drop (i + 1)) (i + 1) f2 = r by
        rw [← HP.out,checkGo_ok HNO.out (by rw [HRUN.out];exact heq)];rw [HRUN.out])
       rw [decide_eq_true heq] at HEQ;clear heq
       go_wp2_with (first
        | (go_at_call 27;refine (HEQ.out _ (Below.refl _ _) HB.out).mono ?_;rintro e w7 ⟨rfl,hb⟩;have HB7 := am0 (below_step HB.out hb);have M17 := am0 (M1.out.below hb);clear hb))
       all_goals
        go_roundw
        case rel => exact ⟨i + 1,f2,n2,by omega,by go_num,HS,M17,⟨by have h1 := HN2.out;have h2 := HN.out;omega⟩,HB7⟩
        case measure => simp [intOf];omega
      have HV := am0 (show r = 8 by rw [← HP.out,checkGo_not HNO.out (by rw [HRUN.out];exact heq)]);rw [decide_eq_false heq] at HEQ;clear heq
      go_wp2_with (first
       | (go_at_call 27;refine (HEQ.out _ (Below.refl _ _) HB.out).mono ?_;rintro e w7 ⟨rfl,hb⟩;have HB7 := am0 (below_step HB.out hb);clear hb))
      all_goals
       go_ret
       exact ⟨by rw [HV.out];rfl,HB7.out⟩
    have HV := am0 (show r = 8 by rw [← HP.out,checkGo_bad (.inr hlen)]);have hln : ¬ (sects.length : Int) = (secs.length : Int) := by omega
    obtain ⟨q6,_⟩ := bx (vs := [.int .i64 k0, .int .i64 k1, .slice A2 secs.length c2, .slice A3 syms.length c3, .slice A4 relas.length c4, .slice A5 groups.length c5, .slice A6 sects.length c6]) BS.out 6 rfl;clear hev HP
    go_wp2_with (first
     | (go_at_call 25;refine (HQ.out _ HB.out).mono ?_;rintro e w4 ⟨rfl,hb⟩;have HB4 := am0 (below_step HB.out hb);have BS4 := am0 (blk_below BS.out hb);clear hb q2 q3 q4 q5 q6;obtain ⟨q2,_⟩ := bx (vs := [.int .i64 k0, .int .i64 k1, .slice A2 secs.length c2, .slice A3 syms.length c3, .slice A4 relas.length c4, .slice A5 groups.length c5, .slice A6 sects.length c6]) BS4.out 2 rfl;obtain ⟨q6,_⟩ := bx (vs := [.int .i64 k0, .int .i64 k1, .slice A2 secs.length c2, .slice A3 syms.length c3, .slice A4 relas.length c4, .slice A5 groups.length c5, .slice A6 sects.length c6]) BS4.out 6 rfl))
    all_goals
     go_ret
     exact ⟨by rw [HV.out];rfl,HB4.out⟩
   rw [hev] at HQ;have HV := am0 (show r = 8 by rw [← HP.out,checkGo_bad (.inl (show keptElf ⟨k0,k1,⟨secs,syms,relas,groups⟩,sects⟩ ≠ 0 from by show elfV secs syms relas groups ≠ 0;rw [hev];decide))]);clear hev H0 HP
   go_wp2_with (first
    | (go_at_call 25;refine (HQ.out _ HB.out).mono ?_;rintro e w4 ⟨rfl,hb⟩;have HB4 := am0 (below_step HB.out hb);clear hb))
   go_ret
   exact ⟨by rw [HV.out];rfl,HB4.out⟩
  have he : i = l0.length := by omega
  subst he
  have hV : (0 : Int) = r := by
   have h1 := HS.out;rw [List.drop_length] at h1;exact h1
  subst hV;have hnum : ¬ ((l0.length : Int) < (l0.length : Int)) := by omega
  go_wp2
  go_ret
  exact ⟨rfl,HB.out⟩
end Go.Proofs.YtalomolellcefaaDoor.Q
namespace Go.Proofs.YtalomolellcefaaDoor.Q
open Go.RowKit Go.Proofs.YtalomolellcefaaDoorW.PrintWords Go.Proofs.YtalomolellcefaaDoor.Maps
def cmpI (x y : Int) : Int := if x < y then -1 else if y < x then 1 else 0
def cmpV : List Int → List Int → Int
 | [],[] => 0
 | [],_ :: _ => -1
 | _ :: _,[] => 1
 | x :: xs,y :: ys => if cmpI x y = 0 then cmpV xs ys else cmpI x y
set_option maxHeartbeats 1000000 in
set_option maxRecDepth 100000 in
theorem cmp_calls (x y : Int) (w : World) : Calls Tryd.prog 51 #[.int .i64 x, .int .i64 y] w fun e w' => e = .returned (.int .i64 (cmpI x y)) ∧ Below w.heap.size w w' := by
 have hx : (x != x) = false := by simp
 have hy : (y != y) = false := by simp
 by_cases h1 : x < y
 ·rw [show cmpI x y = -1 from if_pos h1]
  go_enter Tryd.func51,Tryd.ntmps51
  go_wp2
  all_goals go_ret
  all_goals exact ⟨rfl,Below.refl _ _⟩
 by_cases h2 : y < x
 ·rw [show cmpI x y = 1 by unfold cmpI;rw [if_neg h1,if_pos h2]]
  go_enter Tryd.func51,Tryd.ntmps51
  go_wp2
  all_goals go_ret
  all_goals exact ⟨rfl,Below.refl _ _⟩
 rw [show cmpI x y = 0 by unfold cmpI;rw [if_neg h1,if_neg h2]];go_enter Tryd.func51,Tryd.ntmps51
 go_wp2
 all_goals go_ret
 all_goals exact ⟨rfl,Below.refl _ _⟩
theorem drop_getI {l : List Int} {i : Nat} (h : i < l.length) : l.drop i = rd l (i : Int) :: l.drop (i + 1) := by
 rw [List.drop_eq_getElem_cons h]
 congr 1
 unfold rd;rw [Int.toNat_natCast,List.getD_eq_getElem?_getD,List.getElem?_eq_getElem h,Option.getD_some]
set_option maxHeartbeats 1000000 in
set_option maxRecDepth 100000 in
theorem compare_calls (A B : Option Addr) (c d : Nat) (xs ys : List Int) (w : World) (hx : (Kd.int .i64).C w A xs.length xs) (hy : (Kd.int .i64).C w B ys.length ys) :
  Calls Tryd.prog 38 #[.slice A xs.length c, .slice B ys.length d] w fun e w' => e = .returned (.int .i64 (cmpV xs ys)) ∧ Below w.heap.size w w' := by
 have hbig := hx.2.1;have HX := am0 hx;have HY := am0 hy;clear hx hy;obtain ⟨V,hV⟩ : ∃ V,cmpV xs ys = V := ⟨_,rfl⟩;rw [hV];have HV := am0 hV;clear hV;have HB := am0 (Below.refl w.heap.size w);go_enter Tryd.func38,Tryd.ntmps38
 go_wp2
 go_loopw [11] (fun v wr => ∃ i : Nat,i ≤ xs.length ∧ i ≤ ys.length ∧ v = .int .i64 (i : Int) ∧ Aside0 (cmpV (xs.drop i) (ys.drop i) = V) ∧ Aside0 (Below w.heap.size w wr)) (fun v _ => xs.length - (intOf v).toNat)
 case atStart => exact ⟨0,by omega,by omega,rfl,by simpa using HV,HB⟩
 case round =>
  clear HB HV;obtain ⟨i,hi,hi2,rfl,HS,HB⟩ := hrel
  by_cases hlt : i < xs.length
  ·have g1 : (i : Int) < (xs.length : Int) := by omega
   obtain ⟨a1,e1,y1⟩ := Kd.at_int (Kd.C_below HX.out HB.out) (i : Int) (by omega) g1;subst e1;rw [show ((i : Int)).toNat = i from rfl] at y1;have hs := HS.out;rw [drop_getI hlt] at hs
   by_cases hlt2 : i < ys.length
   ·have g2 : (i : Int) < (ys.length : Int) := by omega
    have g3 : ¬ (ys.length : Int) ≤ (i : Int) := by omega
    obtain ⟨a2,e2,y2⟩ := Kd.at_int (Kd.C_below HY.out HB.out) (i : Int) (by omega) g2;subst e2;rw [show ((i : Int)).toNat = i from rfl] at y2;rw [drop_getI hlt2] at hs;generalize rd xs (i : Int) = x at y1 hs;generalize rd ys (i : Int) = y at y2 hs;rw [cmpV] at hs;have HCM := am0 (fun W => cmp_calls x y W)
    by_cases hz : cmpI x y = 0
    ·rw [if_pos hz] at hs
     rw [hz] at HCM;have HS2 := am0 hs;clear hs hz;go_wp2_with (first | (go_at_call 51;refine (HCM.out _).mono ?_;rintro e w4 ⟨rfl,hb⟩;have HB4 := am0 (below_step HB.out hb);clear hb))
     go_roundw
     case rel => exact ⟨i + 1,by omega,by omega,by go_num,HS2,HB4⟩
     case measure => simp [intOf];omega
    rw [if_neg hz] at hs;obtain ⟨cv,hcv⟩ : ∃ cv,cmpI x y = cv := ⟨_,rfl⟩;rw [hcv] at HCM hz hs;subst hs;clear hcv;have hz2 : (cv != 0) = true := by simpa using hz
    go_wp2_with (first | (go_at_call 51;refine (HCM.out _).mono ?_;rintro e w4 ⟨rfl,hb⟩;have HB4 := am0 (below_step HB.out hb);clear hb))
    all_goals
     go_ret
     exact ⟨rfl,HB4.out⟩
   have he : ys.drop i = [] := List.drop_eq_nil_of_le (by omega);rw [he,cmpV] at hs;subst hs;have g3 : (ys.length : Int) ≤ (i : Int) := by omega
   go_wp2
   all_goals
    go_ret
    exact ⟨rfl,HB.out⟩
  have he : i = xs.length := by omega
  subst he;have hs := HS.out;rw [List.drop_length] at hs;have g1 : ¬ ((xs.length : Int) < (xs.length : Int)) := by omega
  by_cases hlt2 : xs.length < ys.length
  ·rw [drop_getI hlt2,cmpV] at hs
   subst hs;have g3 : (xs.length : Int) < (ys.length : Int) := by omega
   go_wp2
   all_goals
    go_ret
    exact ⟨rfl,HB.out⟩
  rw [show xs.length = ys.length by omega,List.drop_length,cmpV] at hs;subst hs;have g3 : ¬ (xs.length : Int) < (ys.length : Int) := by omega
  go_wp2
  all_goals
   go_ret
   exact ⟨rfl,HB.out⟩
end Go.Proofs.YtalomolellcefaaDoor.Q
namespace Go.Proofs.YtalomolellcefaaDoor.Maps
open Go
def Once (A : Act) (W : World) (e : Exit) (a : Act) (w : World) : Prop := e = .normal ∧ a = A ∧ w = W
theorem once_at (A : Act) (W : World) : Once A W .normal A W := ⟨rfl,rfl,rfl⟩
theorem wp_once {P : Program} {c : Code} {Q : Exit → Act → World → Prop} {a : Act} {w : World} (A : Act) (W : World) (h : c.wp P (Once A W) a w) (h2 : Q .normal A W) : c.wp P Q a w :=
 Code.wp_mono (fun _ _ _ ⟨he,ha,hw⟩ => by subst he ha hw;exact h2) h
section
variable {P : Program} {ops : Array Oper} {md : Region.Mode} {S : (Nat → Bool) → World → Prop} {Q : Exit → Act → World → Prop}
def upMark (f : Nat → Bool) (i : Nat) : Nat → Bool := fun j => if j = i then true else f j
def GivesAt (P : Program) (ops : Array Oper) (S : (Nat → Bool) → World → Prop) (i : Nat) (o : Oper) (v : Value) (a : Act) : Prop :=
 (Region.wanted o (yielded ops a.tmps) = true ∧ ∀ f w,f i = false → S f w → Gives P (S (upMark f i)) v ((execOp a.eval o).run P w)) ∨ (Region.wanted o (yielded ops a.tmps) = false ∧ v = undef ∧ ∀ f w,f i = false → S f w → S (upMark f i) w)
theorem GivesAt.wpOp {i : Nat} {o : Oper} {v : Value} {a : Act} (hi : ops[i]? = some o) (hy : GivesAt P ops S i o v a) {K : Act → World → Prop} {w : World} {f : Nat → Bool} (hf : f i = false) (hS : S f w) (h : ∀ w',S (upMark f i) w' → K (a.put o.dst v) w') : wpOp P ops Q i K a w := by
 unfold Go.wpOp;simp only [hi];rcases hy with ⟨hw,hv⟩ | ⟨hw,rfl,hv⟩
 ·simp only [hw,if_true]
  refine .inl ?_;have := hv f w hf hS;unfold Oper.wp;generalize (execOp a.eval o).run P w = r at this
  cases r with
  | ok n w' =>
   cases n <;> simp only [Gives] at this <;> simp only [Oper.upon]
   case value x => obtain ⟨rfl,h2⟩ := this;exact h _ h2
   case skip => obtain ⟨rfl,h2⟩ := this;exact h _ h2
   case enter g args =>
    refine Calls.mono this fun e w'' he => ?_
    obtain ⟨rfl,h2⟩ := he;exact h _ h2
  | halt x w' => simp only [Gives] at this
 simp only [hw,Bool.false_eq_true,if_false];exact h w (hv f w hf hS)
theorem GivesAt.of_same {i : Nat} {o : Oper} {v : Value} {a a' : Act} (hy : GivesAt P ops S i o v a) (he : execOp a'.eval o = execOp a.eval o)
  (hw : Region.wanted o (yielded ops a'.tmps) = Region.wanted o (yielded ops a.tmps)) : GivesAt P ops S i o v a' := by
 unfold GivesAt at *;rw [he,hw];exact hy
def wpAnyM (P : Program) (md : Region.Mode) (ops : Array Oper) (S : (Nat → Bool) → World → Prop) (Z : Act → Prop) : Nat → Array Bool → Act → Prop
 | 0,listed,a => Region.ready md ops listed = [] ∧ Z a
 | fuel + 1,listed,a => (Region.ready md ops listed = [] → Z a) ∧ ∀ i ∈ Region.ready md ops listed, ∃ o v,ops[i]? = some o ∧ GivesAt P ops S i o v a ∧ wpAnyM P md ops S Z fuel (listed.setIfInBounds i true) (a.put o.dst v)
theorem listed_set {listed : Array Bool} {i : Nat} (h : listed.getD i true = false) : (fun j => (listed.setIfInBounds i true).getD j true) = upMark (fun j => listed.getD j true) i := by
 funext j
 unfold upMark
 by_cases hj : j = i
 ·subst hj
  rw [if_pos rfl]
  by_cases hs : j < listed.size
  ·simp [Array.getD,hs]
  simp [Array.getD,hs] at h
 rw [if_neg hj,getD_set_ne true (fun e => hj e.symm)]
theorem wpAny_of_M : ∀ (fuel : Nat) (listed : Array Bool) (a : Act),wpAnyM P md ops S (fun a => ∀ w,S (fun _ => true) w → Q .normal a w) fuel listed a → (∀ L : Array Bool,L.size = ops.size → Region.ready md ops L = [] → ∀ j,L.getD j true = true) → listed.size = ops.size → ∀ w,S (fun j => listed.getD j true) w → wpAny P md ops Q fuel listed a w
 | 0,listed,_,h,hr,hsz,w,hS => ⟨h.1,h.2 w (by
   have := hr listed hsz h.1;have e : (fun j => listed.getD j true) = (fun _ => true) := funext this;rw [e] at hS;exact hS)⟩
 | fuel + 1,listed,a,h,hr,hsz,w,hS => ⟨fun h0 => h.1 h0 w (by
   have := hr listed hsz h0;have e : (fun j => listed.getD j true) = (fun _ => true) := funext this
   rw [e] at hS;exact hS),fun i hi => by
  obtain ⟨o,v,ho,hg,hrest⟩ := h.2 i hi;have hun := (mem_ready.1 hi).1;refine hg.wpOp ho hun hS (fun w' hS' => ?_);rw [← listed_set hun] at hS';exact wpAny_of_M fuel _ _ hrest hr (by simpa using hsz) w' hS'⟩
theorem wpAnyM_first {Z : Act → Prop} {i : Nat} {oi : Oper} {v : Value} (hi : ops[i]? = some oi) (hsel : ∀ (j : Nat) (o : Oper) cs b,ops[j]? = some o → o.op ≠ .select cs b) :
  ∀ (fuel : Nat) (listed : Array Bool) (a : Act),
   (∀ j oj,ops[j]? = some oj → j ≠ i → listed.getD j true = false → (∀ e ∈ oj.after,Region.binds md e = true → e.on ≠ i) → oi.apart ops oj = true) →
   i ∈ Region.ready md ops listed → GivesAt P ops S i oi v a →
   wpAnyM P md ops S Z fuel (listed.setIfInBounds i true) (a.put oi.dst v) → wpAnyM P md ops S Z (fuel + 1) listed a := by
 intro fuel
 induction fuel with
 | zero =>
  intro listed a _ hr hy H;refine ⟨fun h => (by rw [h] at hr;cases hr),fun j hj => ?_⟩
  by_cases hji : j = i
  ·subst hji;exact ⟨oi,v,hi,hy,H⟩
  have := ready_mono hj hji;rw [H.1] at this;cases this
 | succ fuel ih =>
  intro listed a hfree hr hy H;refine ⟨fun h => (by rw [h] at hr;cases hr),fun j hj => ?_⟩
  by_cases hji : j = i
  ·subst hji;exact ⟨oi,v,hi,hy,H⟩
  obtain ⟨oj',u,hoj',hgj,hrest⟩ := H.2 j (ready_mono hj hji);obtain ⟨hjun,oj,hoj,hall⟩ := mem_ready.1 hj;have e' : oj = oj' := Option.some.inj (hoj.symm.trans hoj');subst e'
  have hnot : ∀ e ∈ oj.after,Region.binds md e = true → e.on ≠ i := fun e he hb heq => by
   have h1 := hall e he hb;have h0 := (mem_ready.1 hr).1;rw [heq] at h1;rcases Nat.lt_or_ge i listed.size with h' | h'
   ·simp [h'] at h0 h1;rw [h0] at h1;cases h1
   simp [Array.getElem?_eq_none h'] at h1
  obtain ⟨h1,h2,h3⟩ := Oper.apart_spec (hfree j oj hoj hji hjun hnot);have hsi := fun cs b => hsel i oi cs b hi
  have hsj := fun cs b => hsel j oj cs b hoj
  have hgj0 : GivesAt P ops S j oj u a := hgj.of_same (execOp_put oj hsj a oi.dst v h1).symm (wanted_put oj a oi.dst v h1).symm;have hgi1 : GivesAt P ops S i oi v (a.put oj.dst u) := hy.of_same (execOp_put oi hsi a oj.dst u h3) (wanted_put oi a oj.dst u h3)
  have hfree' : ∀ k ok,ops[k]? = some ok → k ≠ i → (listed.setIfInBounds j true).getD k true = false →
    (∀ e ∈ ok.after,Region.binds md e = true → e.on ≠ i) → oi.apart ops ok = true := fun k ok hk hki hun hno => by
   refine hfree k ok hk hki ?_ hno
   by_cases hjk : j = k
   ·subst hjk;exact hjun
   rw [getD_set_ne true hjk] at hun;exact hun
  refine ⟨oj,u,hoj,hgj0,ih (listed.setIfInBounds j true) (a.put oj.dst u) hfree' (ready_mono hr (Ne.symm hji)) hgi1 ?_⟩;rw [Array.setIfInBounds_comm _ _ hji, ← Act.put_comm a v u h2];exact hrest
def GiveLine (P : Program) (ops : Array Oper) (S : (Nat → Bool) → World → Prop) (Q : Exit → Act → World → Prop) : Nat → List Oper → Act → Prop
 | _,[],a => ∀ w,S (fun _ => true) w → Q .normal a w
 | k,o :: l,a => ∃ v,GivesAt P ops S k o v a ∧ GiveLine P ops S Q (k + 1) l (a.put o.dst v)
theorem ready_some {L : Array Bool} (hL : L.size = ops.size) (ho : orderOk ops = true) (hm : md = .any) (h : Region.ready md ops L = []) : ∀ j,L.getD j true = true := by
 subst hm
 have key : ∀ n j,j < n → L.getD j true = true := by
  intro n
  induction n with
  | zero => intro j hj;omega
  | succ n ih =>
   intro j hj
   by_cases hjn : j < n
   ·exact ih j hjn
   have : j = n := by omega
   subst this
   cases hc : L.getD j true with
   | true => rfl
   | false =>
    exfalso
    have hlt : j < L.size := by
     by_cases hs : j < L.size
     ·exact hs
     simp [Array.getD,hs] at hc
    have hk := List.all_eq_true.1 ho j (List.mem_range.2 (by omega));simp only [Bool.and_eq_true] at hk;have hr : j ∈ Region.ready .any ops (upTo ops.size j) := by simpa using hk.1
    obtain ⟨_,o,hoj,hall⟩ := mem_ready.1 hr
    have hin : j ∈ Region.ready .any ops L := by
     refine mem_ready.2 ⟨hc,o,hoj,fun e he hb => ?_⟩;have h1 := hall e he hb
     have hlt2 : e.on < j := by
      rcases Nat.lt_or_ge e.on j with h' | h'
      ·exact h'
      exfalso;rcases Nat.lt_or_ge e.on ops.size with h2 | h2
      ·simp [upTo,h2] at h1;omega
      simp [upTo,Array.getElem?_eq_none (xs := ((List.range ops.size).map fun i => decide (i < j)).toArray) (i := e.on) (by simpa using h2)] at h1
     have h3 := ih e.on hlt2;rcases Nat.lt_or_ge e.on L.size with h' | h'
     ·simp [Array.getD,h'] at h3 ⊢;exact h3
     omega
    rw [h] at hin;cases hin
 intro j;exact key (j + 1) j (by omega)
theorem region_line {id : Nat} {L : List Oper} {a : Act} {w : World} (S : (Nat → Bool) → World → Prop) (hm : P.follows .mixedOrders = true) (hs : Region.noSelect L.toArray = true) (ho : orderOk L.toArray = true)
  (hS : S (fun j => decide (L.length ≤ j)) w.drew) (h : GiveLine P L.toArray S Q 0 L a) : (Code.region id L.toArray true).wp P Q a w := by
 generalize hops : L.toArray = ops at *;have hL : ops.toList = L := by rw [← hops]
 have hlen : ops.size = L.length := by rw [← hops];simp
 refine wp_region_any hm ?_
 have key : ∀ m k (a : Act),k + m = ops.size → GiveLine P ops S Q k (ops.toList.drop k) a → wpAnyM P .any ops S (fun a => ∀ w,S (fun _ => true) w → Q .normal a w) m (upTo ops.size k) a := by
  intro m
  induction m with
  | zero =>
   intro k a hk hg;have : k = ops.size := by omega
   subst this;rw [List.drop_eq_nil_of_le (by simp)] at hg;exact ⟨ready_end _ rfl,hg⟩
  | succ m ih =>
   intro k a hk hg;have hlt : k < ops.toList.length := by rw [Array.length_toList];omega
   rw [List.drop_eq_getElem_cons hlt] at hg;obtain ⟨v,hv,hr⟩ := hg;have hoi : ops[k]? = some (ops.toList[k]) := by rw [Array.getElem_toList];exact Array.getElem?_eq_getElem _
   have hk2 := List.all_eq_true.1 ho k (List.mem_range.2 (by omega));simp only [Bool.and_eq_true] at hk2;refine wpAnyM_first hoi (Region.noSelect_spec hs) m _ a (Region.free_spec hoi hk2.2) (by simpa using hk2.1) hv ?_;rw [upTo_next];exact ih (k + 1) _ (by omega) hr
 have hu : upTo ops.size 0 = Array.replicate ops.size false := by
  apply Array.ext_getElem?;intro i
  by_cases hi : i < ops.size <;> simp [upTo,hi]
 have h1 := key ops.size 0 a (by omega) (by rw [List.drop_zero,hL];exact h);rw [hu] at h1;refine wpAny_of_M (Q := Q) _ _ _ h1 (fun L' hL' hr => ready_some hL' ho rfl hr) (by simp) w.drew ?_
 have e : (fun j => (Array.replicate ops.size false).getD j true) = fun j => decide (L.length ≤ j) := by
  funext j
  by_cases hj : j < ops.size
  ·simp [Array.getD,hj];omega
  simp [Array.getD,hj];omega
 rw [e];exact hS
variable {o : Oper} {l : List Oper} {a : Act} {k : Nat}
theorem gm_nil (h : ∀ w,S (fun _ => true) w → Q .normal a w) : GiveLine P ops S Q k [] a := h
theorem gm_val {v : Value} (hw : Region.wanted o (yielded ops a.tmps) = true) (hv : ∀ f w,f k = false → S f w → (execOp a.eval o).run P w = .ok (.value v) w) (hS : ∀ f w,f k = false → S f w → S (upMark f k) w) (h : GiveLine P ops S Q (k + 1) l (a.put o.dst v)) : GiveLine P ops S Q k (o :: l) a :=
 ⟨v, .inl ⟨hw,fun f w hf hS' => by rw [hv f w hf hS'];exact ⟨rfl,hS f w hf hS'⟩⟩,h⟩
theorem gm_step {F : World → World} (hw : Region.wanted o (yielded ops a.tmps) = true) (hv : ∀ f w,f k = false → S f w → (execOp a.eval o).run P w = .ok .skip (F w)) (hS : ∀ f w,f k = false → S f w → S (upMark f k) (F w)) (h : GiveLine P ops S Q (k + 1) l (a.put o.dst undef)) : GiveLine P ops S Q k (o :: l) a :=
 ⟨undef, .inl ⟨hw,fun f w hf hS' => by rw [hv f w hf hS'];exact ⟨rfl,hS f w hf hS'⟩⟩,h⟩
theorem gm_stepE (hw : Region.wanted o (yielded ops a.tmps) = true) (hv : ∀ f w,f k = false → S f w → ∃ w',(execOp a.eval o).run P w = .ok .skip w' ∧ S (upMark f k) w') (h : GiveLine P ops S Q (k + 1) l (a.put o.dst undef)) : GiveLine P ops S Q k (o :: l) a :=
 ⟨undef, .inl ⟨hw,fun f w hf hS' => by obtain ⟨w',h1,h2⟩ := hv f w hf hS';rw [h1];exact ⟨rfl,h2⟩⟩,h⟩
end
end Go.Proofs.YtalomolellcefaaDoor.Maps
