/- What is proved here: steps on the way to the law (texts joined by a program: Q18, Q19, Q20, Q21, Shelf, Kind, Q22, Q23, Q24, Q25, Q26, Q27). -/
import Derived.Test.YtalomolellcefaaDoorJ1
import Derived.Shelf.Small.Bits
import Derived.Shelf.Small.Wraps
import Derived.Shelf.Strconv.Itoa0
import Derived.Shelf.Sort.Plain
import Derived.Shelf.GgClosure.StringsIndexFunc
import Derived.Ground.GgwProg
import Derived.Shelf.GgClosure.StringsIndexFuncTop
import Derived.Shelf.Strings.Prefix
import Derived.Shelf.Bits.Mul64
import Derived.Ground.SlgmProg
import Derived.Shelf.SortM.SortNone
import Derived.Test.YtalomolellcefaaDoorProg
import Derived.WalkSpells
set_option linter.unusedSimpArgs false
set_option linter.unusedVariables false
namespace Go.Proofs.YtalomolellcefaaDoor.Q
open Go.RowKit Go.Proofs.YtalomolellcefaaDoorW.PrintWords Go.Proofs.YtalomolellcefaaDoorW.PrintLast Go.Proofs.YtalomolellcefaaDoorW.PrintMore
attribute [local go_sem] max2_int min2_int max_two min_two
def sym_in.f (a0 : Int) (a1 : Int) (a2 : Int) : Option (Bool) := if a0 ≥ a1 then (some (decide (a0 ≤ a2))) else (some false)
set_option maxHeartbeats 8000000 in
set_option maxRecDepth 100000 in
theorem sym_in.calls (a0 : Int) (a1 : Int) (a2 : Int) (r : Bool) (w : World) (h : sym_in.f a0 a1 a2 = some r) :
  Calls Tryd.prog 60 #[.int .i64 a0, .int .i64 a1, .int .i64 a2] w fun e w' => e = .returned (.bool r) ∧ Drawn0 w w' := by
 have H : (if a0 ≥ a1 then (some (decide (a0 ≤ a2))) else (some false)) = some r := h;clear h
 by_cases c4 : a0 ≥ a1
 ·rw [if_pos c4] at H
  have c4b0 : decide (a1 ≤ a0) = true := decide_eq_true c4;clear c4;obtain rfl := Option.some.inj H;go_enter Tryd.func60,Tryd.ntmps60
  go_wp2
  go_ret
  exact ⟨by first | rfl | (simp;done) | (simp [*];done),by repeat (first | exact Drawn0.refl _ | apply Drawn0.step)⟩
 rw [if_neg c4] at H;have c4b0 : decide (a1 ≤ a0) = false := decide_eq_false c4;clear c4;obtain rfl := Option.some.inj H;go_enter Tryd.func60,Tryd.ntmps60
 go_wp2
 go_ret
 exact ⟨by first | rfl | (simp;done) | (simp [*];done),by repeat (first | exact Drawn0.refl _ | apply Drawn0.step)⟩
mutual
def sym_named.j0 : Nat → ByteArray → Bool → Option (Bool)
 | 0,_,_ => none
 | k + 1,x0,x11 => if x11 = true then (some false) else (sym_named.l0 k x0 (x0.size : Int) 0)
def sym_named.l0 : Nat → ByteArray → Int → Int → Option (Bool)
 | 0,_,_,_ => none
 | k + 1,x0,x13,x14 => if x14 < x13 then (if 0 ≤ x14 then (if x14 < (x0.size : Int) then (if (bt x0 x14) < 33 then (some false) else (if (bt x0 x14) > 126 then (some false) else (sym_named.l0 k x0 x13 (wrap64 (x14 + 1))))) else (none)) else (none)) else (some true)
end
def sym_named.f (k : Nat) (a0 : ByteArray) : Option (Bool) := if a0.toList = ([] : List UInt8) then (sym_named.j0 k a0 true) else (sym_named.j0 k a0 (decide ((a0.size : Int) > 32)))
theorem sym_named.mono_l : ∀ k,(∀ y0 y1,LeO (sym_named.j0 k y0 y1) (sym_named.j0 (k + 1) y0 y1)) ∧ (∀ y0 y1 y2,LeO (sym_named.l0 k y0 y1 y2) (sym_named.l0 (k + 1) y0 y1 y2))
 | 0 => ⟨fun _ _ r h => by simp [sym_named.j0] at h,fun _ _ _ r h => by simp [sym_named.l0] at h⟩
 | k + 1 => by
  obtain ⟨ih0,ih1⟩ := sym_named.mono_l k;refine ⟨?_, ?_⟩
  ·intro y0 y1
   unfold sym_named.j0;repeat' first
   | (with_reducible exact ih0 _ _)
   | (with_reducible exact ih1 _ _ _)
   | (with_reducible exact LeO.refl _)
   | (with_reducible exact LeO.none _)
   | (with_reducible refine LeO.ite ?_ ?_)
   | (with_reducible refine LeO.bind ?_ (fun _ => ?_))
   | exact ih0 _ _
   | exact ih1 _ _ _
   | exact LeO.none _
   | refine LeO.ite ?_ ?_
   | refine LeO.bind ?_ (fun _ => ?_)
  intro y0 y1 y2;unfold sym_named.l0;repeat' first
  | (with_reducible exact ih0 _ _)
  | (with_reducible exact ih1 _ _ _)
  | (with_reducible exact LeO.refl _)
  | (with_reducible exact LeO.none _)
  | (with_reducible refine LeO.ite ?_ ?_)
  | (with_reducible refine LeO.bind ?_ (fun _ => ?_))
  | exact ih0 _ _
  | exact ih1 _ _ _
  | exact LeO.none _
  | refine LeO.ite ?_ ?_
  | refine LeO.bind ?_ (fun _ => ?_)
theorem sym_named.mono : ∀ a0 k,LeO (sym_named.f k a0) (sym_named.f (k + 1) a0) := by
 intro a0 k;obtain ⟨ih0,ih1⟩ := sym_named.mono_l k;unfold sym_named.f
 repeat' first
   | (with_reducible exact ih0 _ _)
   | (with_reducible exact ih1 _ _ _)
   | (with_reducible exact LeO.refl _)
   | (with_reducible exact LeO.none _)
   | (with_reducible refine LeO.ite ?_ ?_)
   | (with_reducible refine LeO.bind ?_ (fun _ => ?_))
   | exact ih0 _ _
   | exact ih1 _ _ _
   | exact LeO.none _
   | refine LeO.ite ?_ ?_
   | refine LeO.bind ?_ (fun _ => ?_)
set_option maxHeartbeats 8000000 in
set_option maxRecDepth 100000 in
theorem sym_named.calls (k : Nat) (a0 : ByteArray) (r : Bool) (w : World) (h : sym_named.f k a0 = some r) :
  Calls Tryd.prog 61 #[.string a0] w fun e w' => e = .returned (.bool r) ∧ Drawn0 w w' := by
 have H : (if a0.toList = ([] : List UInt8) then (sym_named.j0 k a0 true) else (sym_named.j0 k a0 (decide ((a0.size : Int) > 32)))) = some r := h;clear h;have HC2 := am0 H;clear H;go_enter Tryd.func61,Tryd.ntmps61
 go_upto_region 1 with (fail)
 go_cut [11] (fun v11 wc => ∃ (kq : Nat) (x11_1 : Bool),v11 = .bool x11_1 ∧ Aside0 (sym_named.j0 kq a0 x11_1 = some r) ∧ Aside0 (kq ≤ k) ∧ Drawn0 w wc)
 case first =>
  have H := HC2.out;clear HC2
  by_cases c3 : a0.toList = ([] : List UInt8)
  ·rw [if_pos c3] at H
   have c3b0 : (a0.toList == ([] : List UInt8)) = true := beq_iff_eq.mpr c3;have c3b1 : (a0.toList != ([] : List UInt8)) = false := bne_eq_false_iff_eq.mpr c3;clear c3
   (first | rw [c3b0] | (simp only [i64_w,i32_w];rw [c3b0]) | skip)
   have H' := am0 H;clear H;go_wp2
   go_meet
   case rel => exact ⟨_,(true),(by first | rfl | (simp;done) | (simp [*];done)),H',⟨by first | omega | exact Nat.le_refl _⟩,by repeat (first | exact Drawn0.refl _ | apply Drawn0.step)⟩
  rw [if_neg c3] at H;have c3b0 : (a0.toList == ([] : List UInt8)) = false := beq_eq_false_iff_ne.mpr c3;have c3b1 : (a0.toList != ([] : List UInt8)) = true := bne_iff_ne.mpr c3
  (first | rw [c3b0] | (simp only [i64_w,i32_w];rw [c3b0]) | skip)
  have H' := am0 H;clear H;go_wp2
  go_meet
  case rel => exact ⟨_,(decide ((a0.size : Int) > 32)),(by first | rfl | (simp;done) | (simp [*];done)),H',⟨by first | omega | exact Nat.le_refl _⟩,by repeat (first | exact Drawn0.refl _ | apply Drawn0.step)⟩
 case rest =>
  clear HC2;try clear p2
  try clear c3
  try clear c3b0
  try clear c3b1
  obtain ⟨kq,x11_1,rfl,HA,HJ1,⟨mc1,rfl⟩⟩ := hcut
  cases kq with
  | zero => exact absurd HA.out (by simp [sym_named.j0])
  | succ kj1 =>
   have H := HA.out;clear HA;simp only [sym_named.j0] at H
   by_cases c4 : x11_1 = true
   ·subst c4
    have H1 : (some false) = some r := by rw [if_pos rfl] at H;exact H
    clear H;have H := H1;clear H1;obtain rfl := Option.some.inj H;go_wp2
    go_ret
    exact ⟨by first | rfl | (simp;done) | (simp [*];done),by repeat (first | exact Drawn0.refl _ | apply Drawn0.step)⟩
   replace c4 := Bool.eq_false_iff.mpr c4;subst c4;have H1 : (sym_named.l0 kj1 a0 (a0.size : Int) 0) = some r := by rw [if_neg (show ¬ (false = true) by decide)] at H;exact H
   clear H;have H := H1;clear H1;have H' := am0 H;clear H;go_wp2
   go_loopg [14] kj1 (fun kq v14 w' => ∃ (x14_2 : Int),v14 = .int .i64 x14_2 ∧ Aside0 (sym_named.l0 kq a0 (a0.size : Int) x14_2 = some r) ∧ Aside0 (kq ≤ kj1) ∧ Drawn0 w w')
   case atStart => exact ⟨(0),(by first | rfl | (simp;done) | (simp [*];done)),H',⟨Nat.le_refl _⟩,by repeat (first | exact Drawn0.refl _ | apply Drawn0.step)⟩
   case round =>
    clear H';try clear c1
    try clear p2
    try clear c3
    try clear c3b0
    try clear c3b1
    try clear c4
    try clear p2
    obtain ⟨x14_2,rfl,HA,HK2,⟨m2,rfl⟩⟩ := hrel
    cases gk with
    | zero => exact absurd HA.out (by simp [sym_named.l0])
    | succ k2 =>
     have H := HA.out;clear HA;simp only [sym_named.l0] at H
     by_cases c5 : x14_2 < (a0.size : Int)
     ·rw [if_pos c5] at H
      have c5b0 : decide (x14_2 < (a0.size : Int)) = true := decide_eq_true c5;clear c5
      by_cases c6 : 0 ≤ x14_2
      ·rw [if_pos c6] at H
       have c6b0 : decide (0 ≤ x14_2) = true := decide_eq_true c6;clear c6
       by_cases c7 : x14_2 < (a0.size : Int)
       ·rw [if_pos c7] at H
        have c7b0 : decide (x14_2 < (a0.size : Int)) = true := decide_eq_true c7;clear c7
        by_cases c9 : (bt a0 x14_2) < 33
        ·rw [if_pos c9] at H
         have c9b0 : decide ((bt a0 x14_2) < 33) = true := decide_eq_true c9;clear c9;obtain rfl := Option.some.inj H;have p8 : 0 ≤ (x14_2 : Int) := of_decide_eq_true (by first | (with_reducible assumption) | assumption);have q8 : x14_2 < (a0.size : Int) := of_decide_eq_true (by first | (with_reducible assumption) | assumption);have hx8 := bt_at a0 x14_2;replace p8 := eq_true p8;replace q8 := eq_true q8;go_wp2
         go_ret
         exact ⟨by first | rfl | (simp;done) | (simp [*];done),by repeat (first | exact Drawn0.refl _ | apply Drawn0.step)⟩
        rw [if_neg c9] at H;have c9b0 : decide ((bt a0 x14_2) < 33) = false := decide_eq_false c9;clear c9
        by_cases c10 : (bt a0 x14_2) > 126
        ·rw [if_pos c10] at H
         have c10b0 : decide (126 < (bt a0 x14_2)) = true := decide_eq_true c10;clear c10;obtain rfl := Option.some.inj H;have p8 : 0 ≤ (x14_2 : Int) := of_decide_eq_true (by first | (with_reducible assumption) | assumption);have q8 : x14_2 < (a0.size : Int) := of_decide_eq_true (by first | (with_reducible assumption) | assumption);have hx8 := bt_at a0 x14_2;replace p8 := eq_true p8;replace q8 := eq_true q8;go_wp2
         go_ret
         exact ⟨by first | rfl | (simp;done) | (simp [*];done),by repeat (first | exact Drawn0.refl _ | apply Drawn0.step)⟩
        rw [if_neg c10] at H;have c10b0 : decide (126 < (bt a0 x14_2)) = false := decide_eq_false c10;clear c10;have H' := am0 H;clear H;have p8 : 0 ≤ (x14_2 : Int) := of_decide_eq_true (by first | (with_reducible assumption) | assumption);have q8 : x14_2 < (a0.size : Int) := of_decide_eq_true (by first | (with_reducible assumption) | assumption);have hx8 := bt_at a0 x14_2;replace p8 := eq_true p8;replace q8 := eq_true q8;go_wp2
        go_roundg k2
        case measure => have := HJ1.out;have := HK2.out;omega
        case rel => exact ⟨(wrap64 (x14_2 + 1)),(by first | rfl | (simp;done) | (simp [*];done)),H',⟨by have := HJ1.out;have := HK2.out;omega⟩,by repeat (first | exact Drawn0.refl _ | apply Drawn0.step)⟩
       rw [if_neg c7] at H;exact absurd H (by simp)
      rw [if_neg c6] at H;exact absurd H (by simp)
     rw [if_neg c5] at H;have c5b0 : decide (x14_2 < (a0.size : Int)) = false := decide_eq_false c5;clear c5;obtain rfl := Option.some.inj H;go_wp2
     go_ret
     exact ⟨by first | rfl | (simp;done) | (simp [*];done),by repeat (first | exact Drawn0.refl _ | apply Drawn0.step)⟩
def bits_OnesCount64.f (a0 : Int) : Option (Int) := some (Go.bits .and .i64 (wrap64 (IntKind.u64.wrap ((IntKind.u64.wrap ((IntKind.u64.wrap ((Go.bits .and .u64 (IntKind.u64.wrap (((IntKind.u64.wrap ((Go.bits .and .u64 ((IntKind.u64.wrap ((Go.bits .and .u64 (a0 / 2) 6148914691236517205) + (Go.bits .and .u64 a0 6148914691236517205))) / 4) 3689348814741910323) + (Go.bits .and .u64 (IntKind.u64.wrap ((Go.bits .and .u64 (a0 / 2) 6148914691236517205) + (Go.bits .and .u64 a0 6148914691236517205))) 3689348814741910323))) / 16) + (IntKind.u64.wrap ((Go.bits .and .u64 ((IntKind.u64.wrap ((Go.bits .and .u64 (a0 / 2) 6148914691236517205) + (Go.bits .and .u64 a0 6148914691236517205))) / 4) 3689348814741910323) + (Go.bits .and .u64 (IntKind.u64.wrap ((Go.bits .and .u64 (a0 / 2) 6148914691236517205) + (Go.bits .and .u64 a0 6148914691236517205))) 3689348814741910323))))) 1085102592571150095) + ((Go.bits .and .u64 (IntKind.u64.wrap (((IntKind.u64.wrap ((Go.bits .and .u64 ((IntKind.u64.wrap ((Go.bits .and .u64 (a0 / 2) 6148914691236517205) + (Go.bits .and .u64 a0 6148914691236517205))) / 4) 3689348814741910323) + (Go.bits .and .u64 (IntKind.u64.wrap ((Go.bits .and .u64 (a0 / 2) 6148914691236517205) + (Go.bits .and .u64 a0 6148914691236517205))) 3689348814741910323))) / 16) + (IntKind.u64.wrap ((Go.bits .and .u64 ((IntKind.u64.wrap ((Go.bits .and .u64 (a0 / 2) 6148914691236517205) + (Go.bits .and .u64 a0 6148914691236517205))) / 4) 3689348814741910323) + (Go.bits .and .u64 (IntKind.u64.wrap ((Go.bits .and .u64 (a0 / 2) 6148914691236517205) + (Go.bits .and .u64 a0 6148914691236517205))) 3689348814741910323))))) 1085102592571150095) / 256))) + ((IntKind.u64.wrap ((Go.bits .and .u64 (IntKind.u64.wrap (((IntKind.u64.wrap ((Go.bits .and .u64 ((IntKind.u64.wrap ((Go.bits .and .u64 (a0 / 2) 6148914691236517205) + (Go.bits .and .u64 a0 6148914691236517205))) / 4) 3689348814741910323) + (Go.bits .and .u64 (IntKind.u64.wrap ((Go.bits .and .u64 (a0 / 2) 6148914691236517205) + (Go.bits .and .u64 a0 6148914691236517205))) 3689348814741910323))) / 16) + (IntKind.u64.wrap ((Go.bits .and .u64 ((IntKind.u64.wrap ((Go.bits .and .u64 (a0 / 2) 6148914691236517205) + (Go.bits .and .u64 a0 6148914691236517205))) / 4) 3689348814741910323) + (Go.bits .and .u64 (IntKind.u64.wrap ((Go.bits .and .u64 (a0 / 2) 6148914691236517205) + (Go.bits .and .u64 a0 6148914691236517205))) 3689348814741910323))))) 1085102592571150095) + ((Go.bits .and .u64 (IntKind.u64.wrap (((IntKind.u64.wrap ((Go.bits .and .u64 ((IntKind.u64.wrap ((Go.bits .and .u64 (a0 / 2) 6148914691236517205) + (Go.bits .and .u64 a0 6148914691236517205))) / 4) 3689348814741910323) + (Go.bits .and .u64 (IntKind.u64.wrap ((Go.bits .and .u64 (a0 / 2) 6148914691236517205) + (Go.bits .and .u64 a0 6148914691236517205))) 3689348814741910323))) / 16) + (IntKind.u64.wrap ((Go.bits .and .u64 ((IntKind.u64.wrap ((Go.bits .and .u64 (a0 / 2) 6148914691236517205) + (Go.bits .and .u64 a0 6148914691236517205))) / 4) 3689348814741910323) + (Go.bits .and .u64 (IntKind.u64.wrap ((Go.bits .and .u64 (a0 / 2) 6148914691236517205) + (Go.bits .and .u64 a0 6148914691236517205))) 3689348814741910323))))) 1085102592571150095) / 256))) / 65536))) + ((IntKind.u64.wrap ((IntKind.u64.wrap ((Go.bits .and .u64 (IntKind.u64.wrap (((IntKind.u64.wrap ((Go.bits .and .u64 ((IntKind.u64.wrap ((Go.bits .and .u64 (a0 / 2) 6148914691236517205) + (Go.bits .and .u64 a0 6148914691236517205))) / 4) 3689348814741910323) + (Go.bits .and .u64 (IntKind.u64.wrap ((Go.bits .and .u64 (a0 / 2) 6148914691236517205) + (Go.bits .and .u64 a0 6148914691236517205))) 3689348814741910323))) / 16) + (IntKind.u64.wrap ((Go.bits .and .u64 ((IntKind.u64.wrap ((Go.bits .and .u64 (a0 / 2) 6148914691236517205) + (Go.bits .and .u64 a0 6148914691236517205))) / 4) 3689348814741910323) + (Go.bits .and .u64 (IntKind.u64.wrap ((Go.bits .and .u64 (a0 / 2) 6148914691236517205) + (Go.bits .and .u64 a0 6148914691236517205))) 3689348814741910323))))) 1085102592571150095) + ((Go.bits .and .u64 (IntKind.u64.wrap (((IntKind.u64.wrap ((Go.bits .and .u64 ((IntKind.u64.wrap ((Go.bits .and .u64 (a0 / 2) 6148914691236517205) + (Go.bits .and .u64 a0 6148914691236517205))) / 4) 3689348814741910323) + (Go.bits .and .u64 (IntKind.u64.wrap ((Go.bits .and .u64 (a0 / 2) 6148914691236517205) + (Go.bits .and .u64 a0 6148914691236517205))) 3689348814741910323))) / 16) + (IntKind.u64.wrap ((Go.bits .and .u64 ((IntKind.u64.wrap ((Go.bits .and .u64 (a0 / 2) 6148914691236517205) + (Go.bits .and .u64 a0 6148914691236517205))) / 4) 3689348814741910323) + (Go.bits .and .u64 (IntKind.u64.wrap ((Go.bits .and .u64 (a0 / 2) 6148914691236517205) + (Go.bits .and .u64 a0 6148914691236517205))) 3689348814741910323))))) 1085102592571150095) / 256))) + ((IntKind.u64.wrap ((Go.bits .and .u64 (IntKind.u64.wrap (((IntKind.u64.wrap ((Go.bits .and .u64 ((IntKind.u64.wrap ((Go.bits .and .u64 (a0 / 2) 6148914691236517205) + (Go.bits .and .u64 a0 6148914691236517205))) / 4) 3689348814741910323) + (Go.bits .and .u64 (IntKind.u64.wrap ((Go.bits .and .u64 (a0 / 2) 6148914691236517205) + (Go.bits .and .u64 a0 6148914691236517205))) 3689348814741910323))) / 16) + (IntKind.u64.wrap ((Go.bits .and .u64 ((IntKind.u64.wrap ((Go.bits .and .u64 (a0 / 2) 6148914691236517205) + (Go.bits .and .u64 a0 6148914691236517205))) / 4) 3689348814741910323) + (Go.bits .and .u64 (IntKind.u64.wrap ((Go.bits .and .u64 (a0 / 2) 6148914691236517205) + (Go.bits .and .u64 a0 6148914691236517205))) 3689348814741910323))))) 1085102592571150095) + ((Go.bits .and .u64 (IntKind.u64.wrap (((IntKind.u64.wrap ((Go.bits .and .u64 ((IntKind.u64.wrap ((Go.bits .and .u64 (a0 / 2) 6148914691236517205) + (Go.bits .and .u64 a0 6148914691236517205))) / 4) 3689348814741910323) + (Go.bits .and .u64 (IntKind.u64.wrap ((Go.bits .and .u64 (a0 / 2) 6148914691236517205) + (Go.bits .and .u64 a0 6148914691236517205))) 3689348814741910323))) / 16) + (IntKind.u64.wrap ((Go.bits .and .u64 ((IntKind.u64.wrap ((Go.bits .and .u64 (a0 / 2) 6148914691236517205) + (Go.bits .and .u64 a0 6148914691236517205))) / 4) 3689348814741910323) + (Go.bits .and .u64 (IntKind.u64.wrap ((Go.bits .and .u64 (a0 / 2) 6148914691236517205) + (Go.bits .and .u64 a0 6148914691236517205))) 3689348814741910323))))) 1085102592571150095) / 256))) / 65536))) / 4294967296)))) 127)
set_option maxHeartbeats 8000000 in
set_option maxRecDepth 100000 in
theorem bits_OnesCount64.calls (a0 : Int) (r : Int) (w : World) (h : bits_OnesCount64.f a0 = some r) :
  Calls Tryd.prog 59 #[.int .u64 a0] w fun e w' => e = .returned (.int .i64 r) ∧ Drawn0 w w' := by
 have H : (some (Go.bits .and .i64 (wrap64 (IntKind.u64.wrap ((IntKind.u64.wrap ((IntKind.u64.wrap ((Go.bits .and .u64 (IntKind.u64.wrap (((IntKind.u64.wrap ((Go.bits .and .u64 ((IntKind.u64.wrap ((Go.bits .and .u64 (a0 / 2) 6148914691236517205) + (Go.bits .and .u64 a0 6148914691236517205))) / 4) 3689348814741910323) + (Go.bits .and .u64 (IntKind.u64.wrap ((Go.bits .and .u64 (a0 / 2) 6148914691236517205) + (Go.bits .and .u64 a0 6148914691236517205))) 3689348814741910323))) / 16) + (IntKind.u64.wrap ((Go.bits .and .u64 ((IntKind.u64.wrap ((Go.bits .and .u64 (a0 / 2) 6148914691236517205) + (Go.bits .and .u64 a0 6148914691236517205))) / 4) 3689348814741910323) + (Go.bits .and .u64 (IntKind.u64.wrap ((Go.bits .and .u64 (a0 / 2) 6148914691236517205) + (Go.bits .and .u64 a0 6148914691236517205))) 3689348814741910323))))) 1085102592571150095) + ((Go.bits .and .u64 (IntKind.u64.wrap (((IntKind.u64.wrap ((Go.bits .and .u64 ((IntKind.u64.wrap ((Go.bits .and .u64 (a0 / 2) 6148914691236517205) + (Go.bits .and .u64 a0 6148914691236517205))) / 4) 3689348814741910323) + (Go.bits .and .u64 (IntKind.u64.wrap ((Go.bits .and .u64 (a0 / 2) 6148914691236517205) + (Go.bits .and .u64 a0 6148914691236517205))) 3689348814741910323))) / 16) + (IntKind.u64.wrap ((Go.bits .and .u64 ((IntKind.u64.wrap ((Go.bits .and .u64 (a0 / 2) 6148914691236517205) + (Go.bits .and .u64 a0 6148914691236517205))) / 4) 3689348814741910323) + (Go.bits .and .u64 (IntKind.u64.wrap ((Go.bits .and .u64 (a0 / 2) 6148914691236517205) + (Go.bits .and .u64 a0 6148914691236517205))) 3689348814741910323))))) 1085102592571150095) / 256))) + ((IntKind.u64.wrap ((Go.bits .and .u64 (IntKind.u64.wrap (((IntKind.u64.wrap ((Go.bits .and .u64 ((IntKind.u64.wrap ((Go.bits .and .u64 (a0 / 2) 6148914691236517205) + (Go.bits .and .u64 a0 6148914691236517205))) / 4) 3689348814741910323) + (Go.bits .and .u64 (IntKind.u64.wrap ((Go.bits .and .u64 (a0 / 2) 6148914691236517205) + (Go.bits .and .u64 a0 6148914691236517205))) 3689348814741910323))) / 16) + (IntKind.u64.wrap ((Go.bits .and .u64 ((IntKind.u64.wrap ((Go.bits .and .u64 (a0 / 2) 6148914691236517205) + (Go.bits .and .u64 a0 6148914691236517205))) / 4) 3689348814741910323) + (Go.bits .and .u64 (IntKind.u64.wrap ((Go.bits .and .u64 (a0 / 2) 6148914691236517205) + (Go.bits .and .u64 a0 6148914691236517205))) 3689348814741910323))))) 1085102592571150095) + ((Go.bits .and .u64 (IntKind.u64.wrap (((IntKind.u64.wrap ((Go.bits .and .u64 ((IntKind.u64.wrap ((Go.bits .and .u64 (a0 / 2) 6148914691236517205) + (Go.bits .and .u64 a0 6148914691236517205))) / 4) 3689348814741910323) + (Go.bits .and .u64 (IntKind.u64.wrap ((Go.bits .and .u64 (a0 / 2) 6148914691236517205) + (Go.bits .and .u64 a0 6148914691236517205))) 3689348814741910323))) / 16) + (IntKind.u64.wrap ((Go.bits .and .u64 ((IntKind.u64.wrap ((Go.bits .and .u64 (a0 / 2) 6148914691236517205) + (Go.bits .and .u64 a0 6148914691236517205))) / 4) 3689348814741910323) + (Go.bits .and .u64 (IntKind.u64.wrap ((Go.bits .and .u64 (a0 / 2) 6148914691236517205) + (Go.bits .and .u64 a0 6148914691236517205))) 3689348814741910323))))) 1085102592571150095) / 256))) / 65536))) + ((IntKind.u64.wrap ((IntKind.u64.wrap ((Go.bits .and .u64 (IntKind.u64.wrap (((IntKind.u64.wrap ((Go.bits .and .u64 ((IntKind.u64.wrap ((Go.bits .and .u64 (a0 / 2) 6148914691236517205) + (Go.bits .and .u64 a0 6148914691236517205))) / 4) 3689348814741910323) + (Go.bits .and .u64 (IntKind.u64.wrap ((Go.bits .and .u64 (a0 / 2) 6148914691236517205) + (Go.bits .and .u64 a0 6148914691236517205))) 3689348814741910323))) / 16) + (IntKind.u64.wrap ((Go.bits .and .u64 ((IntKind.u64.wrap ((Go.bits .and .u64 (a0 / 2) 6148914691236517205) + (Go.bits .and .u64 a0 6148914691236517205))) / 4) 3689348814741910323) + (Go.bits .and .u64 (IntKind.u64.wrap ((Go.bits .and .u64 (a0 / 2) 6148914691236517205) + (Go.bits .and .u64 a0 6148914691236517205))) 3689348814741910323))))) 1085102592571150095) + ((Go.bits .and .u64 (IntKind.u64.wrap (((IntKind.u64.wrap ((Go.bits .and .u64 ((IntKind.u64.wrap ((Go.bits .and .u64 (a0 / 2) 6148914691236517205) + (Go.bits .and .u64 a0 6148914691236517205))) / 4) 3689348814741910323) + (Go.bits .and .u64 (IntKind.u64.wrap ((Go.bits .and .u64 (a0 / 2) 6148914691236517205) + (Go.bits .and .u64 a0 6148914691236517205))) 3689348814741910323))) / 16) + (IntKind.u64.wrap ((Go.bits .and .u64 ((IntKind.u64.wrap ((Go.bits .and .u64 (a0 / 2) 6148914691236517205) + (Go.bits .and .u64 a0 6148914691236517205))) / 4) 3689348814741910323) + (Go.bits .and .u64 (IntKind.u64.wrap ((Go.bits .and .u64 (a0 / 2) 6148914691236517205) + (Go.bits .and .u64 a0 6148914691236517205))) 3689348814741910323))))) 1085102592571150095) / 256))) + ((IntKind.u64.wrap ((Go.bits .and .u64 (IntKind.u64.wrap (((IntKind.u64.wrap ((Go.bits .and .u64 ((IntKind.u64.wrap ((Go.bits .and .u64 (a0 / 2) 6148914691236517205) + (Go.bits .and .u64 a0 6148914691236517205))) / 4) 3689348814741910323) + (Go.bits .and .u64 (IntKind.u64.wrap ((Go.bits .and .u64 (a0 / 2) 6148914691236517205) + (Go.bits .and .u64 a0 6148914691236517205))) 3689348814741910323))) / 16) + (IntKind.u64.wrap ((Go.bits .and .u64 ((IntKind.u64.wrap ((Go.bits .and .u64 (a0 / 2) 6148914691236517205) + (Go.bits .and .u64 a0 6148914691236517205))) / 4) 3689348814741910323) + (Go.bits .and .u64 (IntKind.u64.wrap ((Go.bits .and .u64 (a0 / 2) 6148914691236517205) + (Go.bits .and .u64 a0 6148914691236517205))) 3689348814741910323))))) 1085102592571150095) + ((Go.bits .and .u64 (IntKind.u64.wrap (((IntKind.u64.wrap ((Go.bits .and .u64 ((IntKind.u64.wrap ((Go.bits .and .u64 (a0 / 2) 6148914691236517205) + (Go.bits .and .u64 a0 6148914691236517205))) / 4) 3689348814741910323) + (Go.bits .and .u64 (IntKind.u64.wrap ((Go.bits .and .u64 (a0 / 2) 6148914691236517205) + (Go.bits .and .u64 a0 6148914691236517205))) 3689348814741910323))) / 16) + (IntKind.u64.wrap ((Go.bits .and .u64 ((IntKind.u64.wrap ((Go.bits .and .u64 (a0 / 2) 6148914691236517205) + (Go.bits .and .u64 a0 6148914691236517205))) / 4) 3689348814741910323) + (Go.bits .and .u64 (IntKind.u64.wrap ((Go.bits .and .u64 (a0 / 2) 6148914691236517205) + (Go.bits .and .u64 a0 6148914691236517205))) 3689348814741910323))))) 1085102592571150095) / 256))) / 65536))) / 4294967296)))) 127)) = some r := h;clear h;obtain rfl := Option.some.inj H;go_enter Tryd.func59,Tryd.ntmps59
 go_wp2
 go_ret
 exact ⟨by first | rfl | (simp;done) | (simp [*];done),by repeat (first | exact Drawn0.refl _ | apply Drawn0.step)⟩
def bits_OnesCount.f (a0 : Int) : Option (Int) := (bits_OnesCount64.f a0).bind fun t398 => (some t398)
set_option maxHeartbeats 8000000 in
set_option maxRecDepth 100000 in
theorem bits_OnesCount.calls (a0 : Int) (r : Int) (w : World) (h : bits_OnesCount.f a0 = some r) :
  Calls Tryd.prog 43 #[.int .u64 a0] w fun e w' => e = .returned (.int .i64 r) ∧ Drawn0 w w' := by
 have H : ((bits_OnesCount64.f a0).bind fun t398 => (some t398)) = some r := h;clear h;replace H := Option.bind_eq_some_iff.mp H;obtain ⟨t398,A20,H⟩ := H;replace H : (some t398) = some r := H;have A2 := am0 A20;clear A20;obtain rfl := Option.some.inj H;go_enter Tryd.func43,Tryd.ntmps43
 go_wp2_with (first | ((with_reducible refine gate_callee (f := 59) rfl ?_);refine goesL_ (some 7) rfl rfl Tryd.func59 (by kernel_rfl) rfl #[.int .u64 a0] rfl (by (try simp only [List.map_toArray,List.map_cons,List.map_nil]);first | done | rfl | (simp only [List.length_drop,List.length_take];rfl)) ?_;(with_reducible refine (bits_OnesCount64.calls a0 t398 _ A2.out).mono ?_);rintro e w' ⟨rfl,⟨nd,rfl⟩⟩;refine ⟨_,rfl, ?_⟩))
 go_ret
 exact ⟨by first | rfl | (simp;done) | (simp [*];done),by repeat (first | exact Drawn0.refl _ | apply Drawn0.step)⟩
end Go.Proofs.YtalomolellcefaaDoor.Q
namespace Go.Proofs
open Go.Shelf
def Tryd.lays103_ren : Go.Shelf.Ren := ⟨fun | 103 => 57 | 210 => 80 | 206 => 91 | n => n,fun | 9 => 9 | 4 => 4 | 24 => 111 | 3 => 3 | n => n,fun | n => n⟩
theorem Tryd.lays103 : Go.Proofs.Lays.n103 Tryd.prog Tryd.lays103_ren := {
 mixed := by kernel_rfl
 f103 := Tryd.func57.trans (congrArg some (by kernel_rfl))
 f206 := Tryd.func91.trans (congrArg some (by kernel_rfl))
 f210 := Tryd.func80.trans (congrArg some (by kernel_rfl))
 t3 := Tryd.underlying3
 a3 := Tryd.isAgg3
 z3 := Tryd.sizeOf3
 v3 := Tryd.zeroValue3
 t4 := Tryd.underlying4
 a4 := Tryd.isAgg4
 z4 := Tryd.sizeOf4
 v4 := Tryd.zeroValue4
 t9 := Tryd.underlying9
 a9 := Tryd.isAgg9
 z9 := Tryd.sizeOf9
 v9 := Tryd.zeroValue9
 t24 := Tryd.underlying111
 a24 := Tryd.isAgg111
 z24 := Tryd.sizeOf111
 v24 := Tryd.zeroValue111 }
open Go.RowKit in
theorem Tryd.strings_CutPrefix (s p : ByteArray) (w : World) :
  Calls Tryd.prog 57 #[.string s, .string p] w fun e w' => e = .returned (.tuple #[.string ⟨(Lib.trimPrefix s.data.toList p.data.toList).toArray⟩, .bool (Lib.hasPrefix s.data.toList p.data.toList)]) ∧ w' = w := Any.strings_CutPrefix Tryd.lays103 s p w
def Tryd.laysGw17_ren : Go.Shelf.Ren := ⟨fun | 17 => 55 | 15 => 79 | 20 => 90 | n => n,fun | 9 => 9 | 23 => 109 | 4 => 4 | 3 => 3 | 0 => 0 | 21 => 21 | n => n,fun | n => n⟩
theorem Tryd.laysGw17 : Go.Proofs.LaysGw.n17 Tryd.prog Tryd.laysGw17_ren := {
 mixed := by kernel_rfl
 f15 := Tryd.func79.trans (congrArg some (by kernel_rfl))
 f17 := Tryd.func55.trans (congrArg some (by kernel_rfl))
 f20 := Tryd.func90.trans (congrArg some (by kernel_rfl))
 t0 := Tryd.underlying0
 a0 := Tryd.isAgg0
 z0 := Tryd.sizeOf0
 v0 := Tryd.zeroValue0
 i0 := by kernel_rfl
 t3 := Tryd.underlying3
 a3 := Tryd.isAgg3
 z3 := Tryd.sizeOf3
 v3 := Tryd.zeroValue3
 i3 := by kernel_rfl
 t4 := Tryd.underlying4
 a4 := Tryd.isAgg4
 z4 := Tryd.sizeOf4
 v4 := Tryd.zeroValue4
 i4 := by kernel_rfl
 t9 := Tryd.underlying9
 a9 := Tryd.isAgg9
 z9 := Tryd.sizeOf9
 v9 := Tryd.zeroValue9
 i9 := by kernel_rfl
 t21 := Tryd.underlying21
 a21 := Tryd.isAgg21
 z21 := Tryd.sizeOf21
 v21 := Tryd.zeroValue21
 i21 := by kernel_rfl
 t23 := Tryd.underlying109
 a23 := Tryd.isAgg109
 z23 := Tryd.sizeOf109
 v23 := Tryd.zeroValue109
 i23 := by kernel_rfl }
open Go.RowKit Go.Lib in
theorem Tryd.strings_ContainsFunc (g : Nat) (lb : Array Value) (eg : ∀ args w,(callFunc g args).run Tryd.prog w = .ok (.enter g args) w) (p : Nat → Bool) (s : ByteArray) (w : World) (hp : PredAt Tryd.prog g lb encR p w) :
  Calls Tryd.prog 55 #[.string s, .func (.func g) #[] lb] w fun e w' => e = .returned (.bool (decide (0 ≤ Lib.idxFunc p true s))) ∧ Below w.heap.size w w' := Any.strings_ContainsFunc Tryd.laysGw17 g lb eg p s w hp
end Go.Proofs
namespace Go.Proofs.YtalomolellcefaaDoor.Q
open Go.RowKit Go.Proofs.YtalomolellcefaaDoorW.PrintWords
def badRune (r : Nat) : Bool := decide (r < 33) || decide (126 < r)
def kindPre : Nat → ByteArray
 | 0 => ⟨#[46,116,101,120,116]⟩
 | 1 => ⟨#[46,114,111,100,97,116,97]⟩
 | 2 => ⟨#[46,100,97,116,97]⟩
 | _ => ⟨#[46,98,115,115]⟩
def kindRest (s : ByteArray) (j : Nat) : ByteArray := ⟨(Lib.trimPrefix s.data.toList (kindPre j).data.toList).toArray⟩
def kindHit (s : ByteArray) (j : Nat) : Bool := Lib.hasPrefix s.data.toList (kindPre j).data.toList && ((kindRest s j).toList.isEmpty || bt (kindRest s j) 0 == 46)
def kindFrom (s : ByteArray) (j : Nat) : Int × Int := if j < 4 then (if kindHit s j then ((j : Int) + 1,0) else kindFrom s (j + 1)) else (0,3)
 termination_by 4 - j
def kindF (s : ByteArray) : Int × Int := if 32 < s.size then (0,3) else if 0 ≤ Lib.idxFunc badRune true s then (0,3) else kindFrom s 0
def sect_Kind.f (a0 : ByteArray) : Option (Int × Int) := some (kindF a0)
theorem kind_bad (w : World) : PredAt Tryd.prog 56 #[] encR badRune w := fun W r _ => by
 unfold FnGives
 by_cases h1 : r < 33 <;> by_cases h2 : 126 < r
 all_goals
  have z1 : (r : Int) < 33 ↔ r < 33 := by omega
  have z2 : (126 : Int) < (r : Int) ↔ 126 < r := by omega
  go_enter Tryd.func56,Tryd.ntmps56
  go_wp2
  all_goals first | (exfalso;omega) | (go_ret;exact ⟨by simp [badRune,h1,h2],0,rfl⟩)
theorem kindFrom_hit {s : ByteArray} {j : Nat} (hj : j < 4) (h : kindHit s j = true) : kindFrom s j = ((j : Int) + 1,0) := by
 rw [kindFrom,if_pos hj,if_pos h]
theorem kindFrom_miss {s : ByteArray} {j : Nat} (hj : j < 4) (h : kindHit s j = false) : kindFrom s j = kindFrom s (j + 1) := by
 rw [kindFrom,if_pos hj,if_neg (by rw [h];simp)]
theorem kindFrom_end (s : ByteArray) : kindFrom s 4 = (0,3) := by rw [kindFrom,if_neg (by omega)]
set_option maxRecDepth 100000 in
theorem kind_index (k : Nat) (hk : k < 4) : ∀ W,(Instr.index 110 (.agg #[.string ⟨#[46,116,101,120,116]⟩, .string ⟨#[46,114,111,100,97,116,97]⟩, .string ⟨#[46,100,97,116,97]⟩, .string ⟨#[46,98,115,115]⟩]) (.int .i64 (k : Int))).run Tryd.prog W = .ok (.string (kindPre k)) W := by
 match k,hk with
 | 0,_ => exact fun _ => by kernel_rfl
 | 1,_ => exact fun _ => by kernel_rfl
 | 2,_ => exact fun _ => by kernel_rfl
 | 3,_ => exact fun _ => by kernel_rfl
set_option maxHeartbeats 2000000 in
theorem sect_Kind.calls (a0 : ByteArray) (r1 : Int) (r2 : Int) (w : World) (h : sect_Kind.f a0 = some (r1,r2)) :
  Calls Tryd.prog 42 #[.string a0] w fun e w' => e = .returned (.tuple #[.int .u8 r1, .int .i64 r2]) ∧ Below w.heap.size w w' := by
 have hk : kindF a0 = (r1,r2) := by simpa [sect_Kind.f] using h
 clear h;have hC := fun W => Tryd.strings_ContainsFunc 56 #[] (enters_of Tryd.func56 (by kernel_rfl) rfl) badRune a0 W (kind_bad W)
 unfold kindF at hk;generalize Lib.idxFunc badRune true a0 = I at hC hk
 by_cases h1 : 32 < a0.size
 ·rw [if_pos h1] at hk
  obtain ⟨rfl,rfl⟩ := Prod.mk.inj hk;clear hk;have h1' : (32 : Int) < (a0.size : Int) := by omega
  go_enter Tryd.func42,Tryd.ntmps42
  go_wp2_with (go_at_call 55;refine (hC _).mono ?_;rintro e w' ⟨rfl,hb⟩)
  go_ret2
  exact ⟨rfl,hb⟩
 rw [if_neg h1] at hk
 by_cases h2 : 0 ≤ I
 ·rw [if_pos h2] at hk
  obtain ⟨rfl,rfl⟩ := Prod.mk.inj hk;clear hk;have h1' : (a0.size : Int) ≤ 32 := by omega
  go_enter Tryd.func42,Tryd.ntmps42
  go_wp2_with (go_at_call 55;refine (hC _).mono ?_;rintro e w' ⟨rfl,hb⟩)
  go_ret2
  exact ⟨rfl,hb⟩
 rw [if_neg h2] at hk;have hK : Aside0 (kindFrom a0 0 = (r1,r2)) := am0 hk;clear hk;have h1' : (a0.size : Int) ≤ 32 := by omega
 have h2' : I < 0 := by omega
 go_enter Tryd.func42,Tryd.ntmps42
 go_wp2_with (go_at_call 55;refine (hC _).mono ?_;rintro e w' ⟨rfl,hb⟩)
 clear hC h1 h2 h2';go_loopw [20] (fun i wr => ∃ k : Nat,k ≤ 4 ∧ i = .int .i64 k ∧ Aside0 (kindFrom a0 k = (r1,r2)) ∧ wr = w') (fun i _ => 4 - (intOf i).toNat)
 case atStart => exact ⟨0,by omega,rfl,hK,rfl⟩
 case round =>
  obtain ⟨k,hk4,rfl,hF,rfl⟩ := hrel
  by_cases hlt : k < 4
  ·have ik := kind_index k hlt
   have hcut := fun W => Tryd.strings_CutPrefix a0 (kindPre k) W
   have hhit : Aside0 (kindHit a0 k = (Lib.hasPrefix a0.data.toList (kindPre k).data.toList && ((kindRest a0 k).toList.isEmpty || bt (kindRest a0 k) 0 == 46))) := am0 rfl;rw [show (⟨(Lib.trimPrefix a0.data.toList (kindPre k).data.toList).toArray⟩ : ByteArray) = kindRest a0 k from rfl] at hcut;generalize kindRest a0 k = R at hcut hhit;generalize Lib.hasPrefix a0.data.toList (kindPre k).data.toList = b at hcut hhit
   cases b with
   | false =>
    have hN : Aside0 (kindFrom a0 (k + 1) = (r1,r2)) := ⟨by rw [← kindFrom_miss hlt (by rw [hhit.out];rfl)];exact hF.out⟩;go_wp2_with (go_at_call 57;refine (hcut _).mono ?_;rintro e w1 ⟨rfl,rfl⟩)
    go_roundw
    case rel => exact ⟨k + 1,by omega,by go_num,hN,trivial⟩
    case measure => simp [intOf];omega
   | true =>
    cases hE : R.toList.isEmpty with
    | true =>
     have hN : Aside0 ((r1 = (k : Int) + 1) ∧ r2 = 0) := ⟨by
      have h1 := hF.out;rw [kindFrom_hit hlt (by rw [hhit.out,hE];rfl)] at h1;exact ⟨(Prod.mk.inj h1).1.symm,(Prod.mk.inj h1).2.symm⟩⟩
     go_wp2_with (go_at_call 57;refine (hcut _).mono ?_;rintro e w1 ⟨rfl,rfl⟩)
     go_ret2
     refine ⟨?_,hb⟩;rw [hN.out.1,hN.out.2];rfl
    | false =>
     have hs : 0 < R.size := by
      rcases Nat.eq_zero_or_pos R.size with h0 | h0
      ·have : R.toList = [] := by
        apply List.eq_nil_of_length_eq_zero;rw [Lib.toList_data,data_length];exact h0
       rw [this] at hE;cases hE
      exact h0
     have hbt : ((R[0]'hs).toNat : Int) = bt R 0 := bt_at R 0 hs;have hs' : (0 : Int) < (R.size : Int) := by omega
     cases hB : (bt R 0 == 46) with
     | true =>
      have hN : Aside0 ((r1 = (k : Int) + 1) ∧ r2 = 0) := ⟨by
       have h1 := hF.out;rw [kindFrom_hit hlt (by rw [hhit.out,hE,hB];rfl)] at h1;exact ⟨(Prod.mk.inj h1).1.symm,(Prod.mk.inj h1).2.symm⟩⟩
      go_wp2_with (go_at_call 57;refine (hcut _).mono ?_;rintro e w1 ⟨rfl,rfl⟩)
      go_ret2
      refine ⟨?_,hb⟩;rw [hN.out.1,hN.out.2];rfl
     | false =>
      have hN : Aside0 (kindFrom a0 (k + 1) = (r1,r2)) := ⟨by rw [← kindFrom_miss hlt (by rw [hhit.out,hE,hB];rfl)];exact hF.out⟩;go_wp2_with (go_at_call 57;refine (hcut _).mono ?_;rintro e w1 ⟨rfl,rfl⟩)
      go_roundw
      case rel => exact ⟨k + 1,by omega,by go_num,hN,trivial⟩
      case measure => simp [intOf];omega
  obtain rfl : k = 4 := by omega
  have hN : Aside0 (r1 = 0 ∧ r2 = 3) := ⟨by
   have h1 := hF.out;rw [kindFrom_end] at h1;exact ⟨(Prod.mk.inj h1).1.symm,(Prod.mk.inj h1).2.symm⟩⟩
  go_wp2
  go_ret2
  refine ⟨?_,hb⟩;rw [hN.out.1,hN.out.2];rfl
end Go.Proofs.YtalomolellcefaaDoor.Q
namespace Go.Proofs.YtalomolellcefaaDoor.Q
open Go.RowKit Go.Proofs.YtalomolellcefaaDoorW.PrintWords Go.Proofs.YtalomolellcefaaDoorW.PrintLast Go.Proofs.YtalomolellcefaaDoorW.PrintMore
attribute [local go_sem] max2_int min2_int max_two min_two
mutual
def sect_Check.j0 : Nat → Int → Int → Bool → ByteArray → Int → List Int → Int → Option (Int)
 | 0,_,_,_,_,_,_,_ => none
 | k + 1,x3,x4,x5,x400000,x400001,x400002,x400003 => if x3 = 4 then (sect_Check.j1 k x4 x5 x400003 (x400002.length : Int)) else (sect_Check.j1 k x4 x5 (x400002.length : Int) x400003)
def sect_Check.j1 : Nat → Int → Bool → Int → Int → Option (Int)
 | 0,_,_,_,_ => none
 | k + 1,x4,x5,x6,x7 => if x4 = 0 then (if x5 = true then (if x7 = 0 then (if x6 < 0 then (sect_Check.j2 k true) else (sect_Check.j2 k (decide (x6 > 4096)))) else (sect_Check.j2 k true)) else (sect_Check.j2 k true)) else (sect_Check.j2 k true)
def sect_Check.j2 : Nat → Bool → Option (Int)
 | 0,_ => none
 | k + 1,x55 => if x55 = true then (some 8) else (some 0)
end
def sect_Check.f (k : Nat) (a0_0 : ByteArray) (a0_1 : Int) (l0_2 : List Int) (a0_3 : Int) : Option (Int) := (sect_Kind.f a0_0).bind fun bt400 => (if a0_1 > 0 then (if a0_1 ≤ 64 then ((bits_OnesCount.f (IntKind.u64.wrap (a0_1))).bind fun t402 => (sect_Check.j0 k bt400.1 bt400.2 (t402 == 1) a0_0 a0_1 l0_2 a0_3)) else (sect_Check.j0 k bt400.1 bt400.2 false a0_0 a0_1 l0_2 a0_3)) else (sect_Check.j0 k bt400.1 bt400.2 false a0_0 a0_1 l0_2 a0_3))
theorem sect_Check.mono_l : ∀ k,(∀ y0 y1 y2 y3 y4 y5 y6,LeO (sect_Check.j0 k y0 y1 y2 y3 y4 y5 y6) (sect_Check.j0 (k + 1) y0 y1 y2 y3 y4 y5 y6)) ∧ (∀ y0 y1 y2 y3,LeO (sect_Check.j1 k y0 y1 y2 y3) (sect_Check.j1 (k + 1) y0 y1 y2 y3)) ∧ (∀ y0,LeO (sect_Check.j2 k y0) (sect_Check.j2 (k + 1) y0))
 | 0 => ⟨fun _ _ _ _ _ _ _ r h => by simp [sect_Check.j0] at h,fun _ _ _ _ r h => by simp [sect_Check.j1] at h,fun _ r h => by simp [sect_Check.j2] at h⟩
 | k + 1 => by
  obtain ⟨ih0,ih1,ih2⟩ := sect_Check.mono_l k;refine ⟨?_, ?_, ?_⟩
  ·intro y0 y1 y2 y3 y4 y5 y6
   unfold sect_Check.j0;repeat' first
   | (with_reducible exact ih0 _ _ _ _ _ _ _)
   | (with_reducible exact ih1 _ _ _ _)
   | (with_reducible exact ih2 _)
   | (with_reducible exact LeO.refl _)
   | (with_reducible exact LeO.none _)
   | (with_reducible refine LeO.ite ?_ ?_)
   | (with_reducible refine LeO.bind ?_ (fun _ => ?_))
   | exact ih0 _ _ _ _ _ _ _
   | exact ih1 _ _ _ _
   | exact ih2 _
   | exact LeO.none _
   | refine LeO.ite ?_ ?_
   | refine LeO.bind ?_ (fun _ => ?_)
  ·intro y0 y1 y2 y3
   unfold sect_Check.j1;repeat' first
   | (with_reducible exact ih0 _ _ _ _ _ _ _)
   | (with_reducible exact ih1 _ _ _ _)
   | (with_reducible exact ih2 _)
   | (with_reducible exact LeO.refl _)
   | (with_reducible exact LeO.none _)
   | (with_reducible refine LeO.ite ?_ ?_)
   | (with_reducible refine LeO.bind ?_ (fun _ => ?_))
   | exact ih0 _ _ _ _ _ _ _
   | exact ih1 _ _ _ _
   | exact ih2 _
   | exact LeO.none _
   | refine LeO.ite ?_ ?_
   | refine LeO.bind ?_ (fun _ => ?_)
  intro y0;unfold sect_Check.j2;repeat' first
  | (with_reducible exact ih0 _ _ _ _ _ _ _)
  | (with_reducible exact ih1 _ _ _ _)
  | (with_reducible exact ih2 _)
  | (with_reducible exact LeO.refl _)
  | (with_reducible exact LeO.none _)
  | (with_reducible refine LeO.ite ?_ ?_)
  | (with_reducible refine LeO.bind ?_ (fun _ => ?_))
  | exact ih0 _ _ _ _ _ _ _
  | exact ih1 _ _ _ _
  | exact ih2 _
  | exact LeO.none _
  | refine LeO.ite ?_ ?_
  | refine LeO.bind ?_ (fun _ => ?_)
theorem sect_Check.mono : ∀ a0 a1 a2 a3 k,LeO (sect_Check.f k a0 a1 a2 a3) (sect_Check.f (k + 1) a0 a1 a2 a3) := by
 intro a0 a1 a2 a3 k;obtain ⟨ih0,ih1,ih2⟩ := sect_Check.mono_l k;unfold sect_Check.f
 repeat' first
   | (with_reducible exact ih0 _ _ _ _ _ _ _)
   | (with_reducible exact ih1 _ _ _ _)
   | (with_reducible exact ih2 _)
   | (with_reducible exact LeO.refl _)
   | (with_reducible exact LeO.none _)
   | (with_reducible refine LeO.ite ?_ ?_)
   | (with_reducible refine LeO.bind ?_ (fun _ => ?_))
   | exact ih0 _ _ _ _ _ _ _
   | exact ih1 _ _ _ _
   | exact ih2 _
   | exact LeO.none _
   | refine LeO.ite ?_ ?_
   | refine LeO.bind ?_ (fun _ => ?_)
set_option maxHeartbeats 8000000 in
set_option maxRecDepth 100000 in
theorem sect_Check.calls (k : Nat) (a0_0 : ByteArray) (a0_1 : Int) (A0_2 : Option Addr) (c0_2 : Nat) (l0_2 : List Int) (a0_3 : Int) (r : Int) (w : World) (hr0_2 : Kd.C (Kd.int .u8) w A0_2 l0_2.length l0_2) (hc0_2 : l0_2.length ≤ c0_2) (h : sect_Check.f k a0_0 a0_1 l0_2 a0_3 = some r) :
  Calls Tryd.prog 33 #[.agg #[.string a0_0, .int .i64 a0_1, .slice A0_2 l0_2.length c0_2, .int .i64 a0_3]] w fun e w' => e = .returned (.int .i64 r) ∧ Below w.heap.size w w' := by
 have hu72 := Tryd.underlying72;have HR0_2 := am0 hr0_2;have HC0_2 := am0 hc0_2;clear hr0_2 hc0_2;have HB := am0 (Below.refl w.heap.size w);have H : ((sect_Kind.f a0_0).bind fun bt400 => (if a0_1 > 0 then (if a0_1 ≤ 64 then ((bits_OnesCount.f (IntKind.u64.wrap (a0_1))).bind fun t402 => (sect_Check.j0 k bt400.1 bt400.2 (t402 == 1) a0_0 a0_1 l0_2 a0_3)) else (sect_Check.j0 k bt400.1 bt400.2 false a0_0 a0_1 l0_2 a0_3)) else (sect_Check.j0 k bt400.1 bt400.2 false a0_0 a0_1 l0_2 a0_3))) = some r := h;clear h;replace H := Option.bind_eq_some_iff.mp H;obtain ⟨⟨t400,t401⟩,A20,H⟩ := H;replace H : (if a0_1 > 0 then (if a0_1 ≤ 64 then ((bits_OnesCount.f (IntKind.u64.wrap (a0_1))).bind fun t402 => (sect_Check.j0 k t400 t401 (t402 == 1) a0_0 a0_1 l0_2 a0_3)) else (sect_Check.j0 k t400 t401 false a0_0 a0_1 l0_2 a0_3)) else (sect_Check.j0 k t400 t401 false a0_0 a0_1 l0_2 a0_3)) = some r := H;have A2 := am0 A20;clear A20;have HC3 := am0 H;clear H;go_enter Tryd.func33,Tryd.ntmps33
 go_upto_region 2 with (first | ((with_reducible refine gate_dst (N := 1) rfl ?_);refine box_event ?hg (N := 1) ?hd (cs := #[.string a0_0, .int .i64 a0_1, .slice A0_2 l0_2.length c0_2, .int .i64 a0_3]) (t := 72) ?hr ?_;(case hd => rfl);(case hg => rfl);(case hr => first | (go_simp;done) | (go_simp;rfl));intro gb399 hg w4 hbox hb;have n0_ := am0 (below_step (by repeat (first | (with_reducible first | exact HB.out | apply below_alloc | apply pw_below_drewN | apply below_drew1) | exact HB.out)) hb);have n1_ := am0 (hbox);have n2_ := am0 ((by rw [hg];exact (below_size (by repeat (first | (with_reducible first | exact HB.out | apply below_alloc | apply pw_below_drewN | apply below_drew1) | exact HB.out))) : w.heap.size ≤ gb399));have n3_ := am0 ((by rw [hg];exact (below_size (by repeat (first | (with_reducible first | exact HB.out | apply below_alloc | apply pw_below_drewN | apply below_drew1) | exact HB.out))) : w.heap.size ≤ gb399));clear HB;have HB := n0_;have BK399 := n1_;have GW399 := n2_;have GE399 := n3_;clear n0_ n1_ n2_ n3_;clear hb hbox hg;have hcz5_0 : w4.cell? ⟨gb399,0,none⟩ = some (.string a0_0) := (blk_cell BK399.out 0).trans rfl;have hcz5_1 : w4.cell? ⟨gb399,1,none⟩ = some (.int .i64 a0_1) := (blk_cell BK399.out 1).trans rfl;have hcz5_2 : w4.cell? ⟨gb399,2,none⟩ = some (.slice A0_2 l0_2.length c0_2) := (blk_cell BK399.out 2).trans rfl;have hcz5_3 : w4.cell? ⟨gb399,3,none⟩ = some (.int .i64 a0_3) := (blk_cell BK399.out 3).trans rfl;have hfz5_0 := blk_frozen BK399.out 0;have hfz5_1 := blk_frozen BK399.out 1;have hfz5_2 := blk_frozen BK399.out 2;have hfz5_3 := blk_frozen BK399.out 3) | (go_at_call 42;(with_reducible refine (sect_Kind.calls a0_0 t400 t401 _ A2.out).mono ?_);rintro e w6 ⟨rfl,hb⟩;have n0_ := am0 (blk_below (g := gb399) (o := .cells #[.string a0_0, .int .i64 a0_1, .slice A0_2 l0_2.length c0_2, .int .i64 a0_3] 72 (0,0)) (by (with_reducible repeat (first | refine blk_drewN ?_ _ | refine blk_drew ?_ | refine blk_alloc ?_ _));exact BK399.out) hb);have n1_ := am0 (below_step (by repeat (first | (with_reducible first | exact HB.out | apply below_alloc | apply pw_below_drewN | apply below_drew1 | refine below_set ?_ GE399.out) | exact HB.out)) hb);clear BK399;clear HB;have BK399 := n0_;have HB := n1_;clear n0_ n1_;(try clear hb);(try clear hb2);(try clear hk);(try clear hi)))
 repeat (go_quiet (first | ((with_reducible refine gate_dst (N := 1) rfl ?_);refine box_event ?hg (N := 1) ?hd (cs := #[.string a0_0, .int .i64 a0_1, .slice A0_2 l0_2.length c0_2, .int .i64 a0_3]) (t := 72) ?hr ?_;(case hd => rfl);(case hg => rfl);(case hr => first | (go_simp;done) | (go_simp;rfl));intro gb399 hg w4 hbox hb;have n0_ := am0 (below_step (by repeat (first | (with_reducible first | exact HB.out | apply below_alloc | apply pw_below_drewN | apply below_drew1) | exact HB.out)) hb);have n1_ := am0 (hbox);have n2_ := am0 ((by rw [hg];exact (below_size (by repeat (first | (with_reducible first | exact HB.out | apply below_alloc | apply pw_below_drewN | apply below_drew1) | exact HB.out))) : w.heap.size ≤ gb399));have n3_ := am0 ((by rw [hg];exact (below_size (by repeat (first | (with_reducible first | exact HB.out | apply below_alloc | apply pw_below_drewN | apply below_drew1) | exact HB.out))) : w.heap.size ≤ gb399));clear HB;have HB := n0_;have BK399 := n1_;have GW399 := n2_;have GE399 := n3_;clear n0_ n1_ n2_ n3_;clear hb hbox hg;have hcz5_0 : w4.cell? ⟨gb399,0,none⟩ = some (.string a0_0) := (blk_cell BK399.out 0).trans rfl;have hcz5_1 : w4.cell? ⟨gb399,1,none⟩ = some (.int .i64 a0_1) := (blk_cell BK399.out 1).trans rfl;have hcz5_2 : w4.cell? ⟨gb399,2,none⟩ = some (.slice A0_2 l0_2.length c0_2) := (blk_cell BK399.out 2).trans rfl;have hcz5_3 : w4.cell? ⟨gb399,3,none⟩ = some (.int .i64 a0_3) := (blk_cell BK399.out 3).trans rfl;have hfz5_0 := blk_frozen BK399.out 0;have hfz5_1 := blk_frozen BK399.out 1;have hfz5_2 := blk_frozen BK399.out 2;have hfz5_3 := blk_frozen BK399.out 3) | (go_at_call 42;(with_reducible refine (sect_Kind.calls a0_0 t400 t401 _ A2.out).mono ?_);rintro e w6 ⟨rfl,hb⟩;have n0_ := am0 (blk_below (g := gb399) (o := .cells #[.string a0_0, .int .i64 a0_1, .slice A0_2 l0_2.length c0_2, .int .i64 a0_3] 72 (0,0)) (by (with_reducible repeat (first | refine blk_drewN ?_ _ | refine blk_drew ?_ | refine blk_alloc ?_ _));exact BK399.out) hb);have n1_ := am0 (below_step (by repeat (first | (with_reducible first | exact HB.out | apply below_alloc | apply pw_below_drewN | apply below_drew1 | refine below_set ?_ GE399.out) | exact HB.out)) hb);clear BK399;clear HB;have BK399 := n0_;have HB := n1_;clear n0_ n1_;(try clear hb);(try clear hb2);(try clear hk);(try clear hi)));go_upto_region 2 with (first | ((with_reducible refine gate_dst (N := 1) rfl ?_);refine box_event ?hg (N := 1) ?hd (cs := #[.string a0_0, .int .i64 a0_1, .slice A0_2 l0_2.length c0_2, .int .i64 a0_3]) (t := 72) ?hr ?_;(case hd => rfl);(case hg => rfl);(case hr => first | (go_simp;done) | (go_simp;rfl));intro gb399 hg w4 hbox hb;have n0_ := am0 (below_step (by repeat (first | (with_reducible first | exact HB.out | apply below_alloc | apply pw_below_drewN | apply below_drew1) | exact HB.out)) hb);have n1_ := am0 (hbox);have n2_ := am0 ((by rw [hg];exact (below_size (by repeat (first | (with_reducible first | exact HB.out | apply below_alloc | apply pw_below_drewN | apply below_drew1) | exact HB.out))) : w.heap.size ≤ gb399));have n3_ := am0 ((by rw [hg];exact (below_size (by repeat (first | (with_reducible first | exact HB.out | apply below_alloc | apply pw_below_drewN | apply below_drew1) | exact HB.out))) : w.heap.size ≤ gb399));clear HB;have HB := n0_;have BK399 := n1_;have GW399 := n2_;have GE399 := n3_;clear n0_ n1_ n2_ n3_;clear hb hbox hg;have hcz5_0 : w4.cell? ⟨gb399,0,none⟩ = some (.string a0_0) := (blk_cell BK399.out 0).trans rfl;have hcz5_1 : w4.cell? ⟨gb399,1,none⟩ = some (.int .i64 a0_1) := (blk_cell BK399.out 1).trans rfl;have hcz5_2 : w4.cell? ⟨gb399,2,none⟩ = some (.slice A0_2 l0_2.length c0_2) := (blk_cell BK399.out 2).trans rfl;have hcz5_3 : w4.cell? ⟨gb399,3,none⟩ = some (.int .i64 a0_3) := (blk_cell BK399.out 3).trans rfl;have hfz5_0 := blk_frozen BK399.out 0;have hfz5_1 := blk_frozen BK399.out 1;have hfz5_2 := blk_frozen BK399.out 2;have hfz5_3 := blk_frozen BK399.out 3) | (go_at_call 42;(with_reducible refine (sect_Kind.calls a0_0 t400 t401 _ A2.out).mono ?_);rintro e w6 ⟨rfl,hb⟩;have n0_ := am0 (blk_below (g := gb399) (o := .cells #[.string a0_0, .int .i64 a0_1, .slice A0_2 l0_2.length c0_2, .int .i64 a0_3] 72 (0,0)) (by (with_reducible repeat (first | refine blk_drewN ?_ _ | refine blk_drew ?_ | refine blk_alloc ?_ _));exact BK399.out) hb);have n1_ := am0 (below_step (by repeat (first | (with_reducible first | exact HB.out | apply below_alloc | apply pw_below_drewN | apply below_drew1 | refine below_set ?_ GE399.out) | exact HB.out)) hb);clear BK399;clear HB;have BK399 := n0_;have HB := n1_;clear n0_ n1_;(try clear hb);(try clear hb2);(try clear hk);(try clear hi))))
 (try simp only [Act.put,List.setIfInBounds_toArray,List.set_cons_zero,List.set_cons_succ])
 go_cut [5] (fun v5 wc => ∃ (kq : Nat) (x5_2 : Bool),v5 = .bool x5_2 ∧ Aside0 (sect_Check.j0 kq t400 t401 x5_2 a0_0 a0_1 l0_2 a0_3 = some r) ∧ Aside0 (kq ≤ k) ∧ Aside0 (wc.heap[gb399]? = some (.cells #[.string a0_0, .int .i64 a0_1,(.slice A0_2 l0_2.length c0_2), .int .i64 a0_3] 72 (0,0))) ∧ Aside0 (Below w.heap.size w wc))
 case first =>
  have H := HC3.out;clear HC3
  by_cases c7 : a0_1 > 0
  ·rw [if_pos c7] at H
   have c7b0 : decide (0 < a0_1) = true := decide_eq_true c7;clear c7
   (first | rw [c7b0] | (simp only [i64_w,i32_w];rw [c7b0]) | skip)
   by_cases c8 : a0_1 ≤ 64
   ·rw [if_pos c8] at H
    have c8b0 : decide (a0_1 ≤ 64) = true := decide_eq_true c8;clear c8;replace H := Option.bind_eq_some_iff.mp H;obtain ⟨t402,A90,H⟩ := H;replace H : (sect_Check.j0 k t400 t401 (t402 == 1) a0_0 a0_1 l0_2 a0_3) = some r := H;have A9 := am0 A90;clear A90;have H' := am0 H;clear H;have hcz10_0 : w6.cell? ⟨gb399,0,none⟩ = some (.string a0_0) := (blk_cell BK399.out 0).trans rfl;have hcz10_1 : w6.cell? ⟨gb399,1,none⟩ = some (.int .i64 a0_1) := (blk_cell BK399.out 1).trans rfl;have hcz10_2 : w6.cell? ⟨gb399,2,none⟩ = some (.slice A0_2 l0_2.length c0_2) := (blk_cell BK399.out 2).trans rfl;have hcz10_3 : w6.cell? ⟨gb399,3,none⟩ = some (.int .i64 a0_3) := (blk_cell BK399.out 3).trans rfl;have hfz10_0 := blk_frozen BK399.out 0;have hfz10_1 := blk_frozen BK399.out 1;have hfz10_2 := blk_frozen BK399.out 2;have hfz10_3 := blk_frozen BK399.out 3;go_wp2_with (first | (go_at_call 43;(with_reducible refine (bits_OnesCount.calls (IntKind.u64.wrap (a0_1)) t402 _ A9.out).mono ?_);rintro e w' ⟨rfl,⟨nd,rfl⟩⟩;(try first | exact ⟨rfl,_,World.drewN_drewN _ _ _⟩ | exact ⟨rfl,_,Eq.trans (World.drewN_drewN _ _ _) (congrArg (World.drewN _) (Nat.add_assoc _ _ _))⟩)))
    repeat (go_quiet (first | (go_at_call 43;(with_reducible refine (bits_OnesCount.calls (IntKind.u64.wrap (a0_1)) t402 _ A9.out).mono ?_);rintro e w' ⟨rfl,⟨nd,rfl⟩⟩;(try first | exact ⟨rfl,_,World.drewN_drewN _ _ _⟩ | exact ⟨rfl,_,Eq.trans (World.drewN_drewN _ _ _) (congrArg (World.drewN _) (Nat.add_assoc _ _ _))⟩)));try go_wp2_with (first | (go_at_call 43;(with_reducible refine (bits_OnesCount.calls (IntKind.u64.wrap (a0_1)) t402 _ A9.out).mono ?_);rintro e w' ⟨rfl,⟨nd,rfl⟩⟩;(try first | exact ⟨rfl,_,World.drewN_drewN _ _ _⟩ | exact ⟨rfl,_,Eq.trans (World.drewN_drewN _ _ _) (congrArg (World.drewN _) (Nat.add_assoc _ _ _))⟩))))
    go_meet
    case rel => exact ⟨_,((t402 == 1)),(by first | rfl | (simp;done) | (simp [*];done)),H',⟨by first | omega | exact Nat.le_refl _⟩,⟨by (with_reducible repeat (first | refine blk_drewN ?_ _ | refine blk_drew ?_ | refine blk_alloc ?_ _));exact BK399.out⟩,⟨by repeat (first | (with_reducible first | exact HB.out | apply below_alloc | apply pw_below_drewN | apply below_drew1 | refine below_set ?_ GE399.out) | exact HB.out)⟩⟩
   rw [if_neg c8] at H;have c8b0 : decide (a0_1 ≤ 64) = false := decide_eq_false c8;clear c8;have H' := am0 H;clear H;have hcz11_0 : w6.cell? ⟨gb399,0,none⟩ = some (.string a0_0) := (blk_cell BK399.out 0).trans rfl;have hcz11_1 : w6.cell? ⟨gb399,1,none⟩ = some (.int .i64 a0_1) := (blk_cell BK399.out 1).trans rfl;have hcz11_2 : w6.cell? ⟨gb399,2,none⟩ = some (.slice A0_2 l0_2.length c0_2) := (blk_cell BK399.out 2).trans rfl;have hcz11_3 : w6.cell? ⟨gb399,3,none⟩ = some (.int .i64 a0_3) := (blk_cell BK399.out 3).trans rfl;have hfz11_0 := blk_frozen BK399.out 0;have hfz11_1 := blk_frozen BK399.out 1;have hfz11_2 := blk_frozen BK399.out 2;have hfz11_3 := blk_frozen BK399.out 3;go_wp2
   repeat (go_quiet (fail);try go_wp2)
   go_meet
   case rel => exact ⟨_,(false),(by first | rfl | (simp;done) | (simp [*];done)),H',⟨by first | omega | exact Nat.le_refl _⟩,⟨by (with_reducible repeat (first | refine blk_drewN ?_ _ | refine blk_drew ?_ | refine blk_alloc ?_ _));exact BK399.out⟩,⟨by repeat (first | (with_reducible first | exact HB.out | apply below_alloc | apply pw_below_drewN | apply below_drew1 | refine below_set ?_ GE399.out) | exact HB.out)⟩⟩
  rw [if_neg c7] at H;have c7b0 : decide (0 < a0_1) = false := decide_eq_false c7;clear c7
  (first | rw [c7b0] | (simp only [i64_w,i32_w];rw [c7b0]) | skip)
  have H' := am0 H;clear H;have hcz12_0 : w6.cell? ⟨gb399,0,none⟩ = some (.string a0_0) := (blk_cell BK399.out 0).trans rfl;have hcz12_1 : w6.cell? ⟨gb399,1,none⟩ = some (.int .i64 a0_1) := (blk_cell BK399.out 1).trans rfl;have hcz12_2 : w6.cell? ⟨gb399,2,none⟩ = some (.slice A0_2 l0_2.length c0_2) := (blk_cell BK399.out 2).trans rfl;have hcz12_3 : w6.cell? ⟨gb399,3,none⟩ = some (.int .i64 a0_3) := (blk_cell BK399.out 3).trans rfl;have hfz12_0 := blk_frozen BK399.out 0;have hfz12_1 := blk_frozen BK399.out 1;have hfz12_2 := blk_frozen BK399.out 2;have hfz12_3 := blk_frozen BK399.out 3;go_wp2
  repeat (go_quiet (fail);try go_wp2)
  go_meet
  case rel => exact ⟨_,(false),(by first | rfl | (simp;done) | (simp [*];done)),H',⟨by first | omega | exact Nat.le_refl _⟩,⟨by (with_reducible repeat (first | refine blk_drewN ?_ _ | refine blk_drew ?_ | refine blk_alloc ?_ _));exact BK399.out⟩,⟨by repeat (first | (with_reducible first | exact HB.out | apply below_alloc | apply pw_below_drewN | apply below_drew1 | refine below_set ?_ GE399.out) | exact HB.out)⟩⟩
 case rest =>
  clear HC3;try clear p2
  try clear c3
  try clear c7
  try clear c7b0
  try clear c8
  try clear c8b0
  try clear hcz10_0
  try clear hcz10_1
  try clear hcz10_2
  try clear hcz10_3
  try clear hcz11_0
  try clear hcz11_1
  try clear hcz11_2
  try clear hcz11_3
  try clear hcz12_0
  try clear hcz12_1
  try clear hcz12_2
  try clear hcz12_3
  try clear hcz5_0
  try clear hcz5_1
  try clear hcz5_2
  try clear hcz5_3
  try clear hfz10_0
  try clear hfz10_1
  try clear hfz10_2
  try clear hfz10_3
  try clear hfz11_0
  try clear hfz11_1
  try clear hfz11_2
  try clear hfz11_3
  try clear hfz12_0
  try clear hfz12_1
  try clear hfz12_2
  try clear hfz12_3
  try clear hfz5_0
  try clear hfz5_1
  try clear hfz5_2
  try clear hfz5_3
  obtain ⟨kq,x5_2,rfl,HA,HJ2,BK399,HB⟩ := hcut
  cases kq with
  | zero => exact absurd HA.out (by simp [sect_Check.j0])
  | succ kj2 =>
   have H := HA.out;clear HA;simp only [sect_Check.j0] at H;have HC13 := am0 H;clear H;have hcz14_0 : wc.cell? ⟨gb399,0,none⟩ = some (.string a0_0) := (blk_cell BK399.out 0).trans rfl;have hcz14_1 : wc.cell? ⟨gb399,1,none⟩ = some (.int .i64 a0_1) := (blk_cell BK399.out 1).trans rfl;have hcz14_2 : wc.cell? ⟨gb399,2,none⟩ = some (.slice A0_2 l0_2.length c0_2) := (blk_cell BK399.out 2).trans rfl;have hcz14_3 : wc.cell? ⟨gb399,3,none⟩ = some (.int .i64 a0_3) := (blk_cell BK399.out 3).trans rfl;have hfz14_0 := blk_frozen BK399.out 0;have hfz14_1 := blk_frozen BK399.out 1;have hfz14_2 := blk_frozen BK399.out 2;have hfz14_3 := blk_frozen BK399.out 3;go_upto_if 35 with (fail)
   repeat (go_quiet (fail);go_upto_if 35 with (fail))
   go_cut [6,7] (fun v6 v7 wc => ∃ (kq : Nat) (x6_12 : Int) (x7_12 : Int),v6 = .int .i64 x6_12 ∧ v7 = .int .i64 x7_12 ∧ Aside0 (sect_Check.j1 kq t401 x5_2 x6_12 x7_12 = some r) ∧ Aside0 (kq ≤ kj2) ∧ Aside0 (wc.heap[gb399]? = some (.cells #[.string a0_0, .int .i64 a0_1,(.slice A0_2 l0_2.length c0_2), .int .i64 a0_3] 72 (0,0))) ∧ Aside0 (Below w.heap.size w wc))
   case first =>
    have H := HC13.out;clear HC13
    by_cases c15 : t400 = 4
    ·rw [if_pos c15] at H
     have c15b0 : (t400 == 4) = true := beq_iff_eq.mpr c15;have c15b1 : (t400 != 4) = false := bne_eq_false_iff_eq.mpr c15;clear c15
     (first | rw [c15b0] | (simp only [i64_w,i32_w];rw [c15b0]) | skip)
     have H' := am0 H;clear H;go_wp2
     repeat (go_quiet (fail);try go_wp2)
     go_meet
     case rel => exact ⟨_,(a0_3),((l0_2.length : Int)),(by first | rfl | (simp;done) | (simp [*];done)),(by first | rfl | (simp;done) | (simp [*];done)),H',⟨by have := HJ2.out;first | omega | exact Nat.le_refl _⟩,⟨by (with_reducible repeat (first | refine blk_drewN ?_ _ | refine blk_drew ?_ | refine blk_alloc ?_ _));exact BK399.out⟩,⟨by repeat (first | (with_reducible first | exact HB.out | apply below_alloc | apply pw_below_drewN | apply below_drew1 | refine below_set ?_ GE399.out) | exact HB.out)⟩⟩
    rw [if_neg c15] at H;have c15b0 : (t400 == 4) = false := beq_eq_false_iff_ne.mpr c15;have c15b1 : (t400 != 4) = true := bne_iff_ne.mpr c15
    (first | rw [c15b0] | (simp only [i64_w,i32_w];rw [c15b0]) | skip)
    have H' := am0 H;clear H;go_wp2
    repeat (go_quiet (fail);try go_wp2)
    go_meet
    case rel => exact ⟨_,((l0_2.length : Int)),(a0_3),(by first | rfl | (simp;done) | (simp [*];done)),(by first | rfl | (simp;done) | (simp [*];done)),H',⟨by have := HJ2.out;first | omega | exact Nat.le_refl _⟩,⟨by (with_reducible repeat (first | refine blk_drewN ?_ _ | refine blk_drew ?_ | refine blk_alloc ?_ _));exact BK399.out⟩,⟨by repeat (first | (with_reducible first | exact HB.out | apply below_alloc | apply pw_below_drewN | apply below_drew1 | refine below_set ?_ GE399.out) | exact HB.out)⟩⟩
   case rest =>
    clear HC13;try clear c1
    try clear p2
    try clear c3
    try clear c7
    try clear c7b0
    try clear c8
    try clear c8b0
    try clear c15
    try clear c15b0
    try clear c15b1
    try clear hcz10_0
    try clear hcz10_1
    try clear hcz10_2
    try clear hcz10_3
    try clear hcz11_0
    try clear hcz11_1
    try clear hcz11_2
    try clear hcz11_3
    try clear hcz12_0
    try clear hcz12_1
    try clear hcz12_2
    try clear hcz12_3
    try clear hcz14_0
    try clear hcz14_1
    try clear hcz14_2
    try clear hcz14_3
    try clear hcz5_0
    try clear hcz5_1
    try clear hcz5_2
    try clear hcz5_3
    try clear hfz10_0
    try clear hfz10_1
    try clear hfz10_2
    try clear hfz10_3
    try clear hfz11_0
    try clear hfz11_1
    try clear hfz11_2
    try clear hfz11_3
    try clear hfz12_0
    try clear hfz12_1
    try clear hfz12_2
    try clear hfz12_3
    try clear hfz14_0
    try clear hfz14_1
    try clear hfz14_2
    try clear hfz14_3
    try clear hfz5_0
    try clear hfz5_1
    try clear hfz5_2
    try clear hfz5_3
    try clear p2
    obtain ⟨kq,x6_12,x7_12,rfl,rfl,HA,HJ12,BK399,HB⟩ := hcut
    cases kq with
    | zero => exact absurd HA.out (by simp [sect_Check.j1])
    | succ kj12 =>
     have H := HA.out;clear HA;simp only [sect_Check.j1] at H;have HC16 := am0 H;clear H;go_upto_region 6 with (fail)
     repeat (go_quiet (fail);go_upto_region 6 with (fail))
     go_cut [55] (fun v55 wc => ∃ (kq : Nat) (x55_15 : Bool),v55 = .bool x55_15 ∧ Aside0 (sect_Check.j2 kq x55_15 = some r) ∧ Aside0 (kq ≤ kj12) ∧ Aside0 (wc.heap[gb399]? = some (.cells #[.string a0_0, .int .i64 a0_1,(.slice A0_2 l0_2.length c0_2), .int .i64 a0_3] 72 (0,0))) ∧ Aside0 (Below w.heap.size w wc))
     case first =>
      have H := HC16.out;clear HC16
      by_cases c17 : t401 = 0
      ·rw [if_pos c17] at H
       have c17b0 : (t401 == 0) = true := beq_iff_eq.mpr c17;have c17b1 : (t401 != 0) = false := bne_eq_false_iff_eq.mpr c17;clear c17
       (first | rw [c17b0] | (simp only [i64_w,i32_w];rw [c17b0]) | skip)
       by_cases c18 : x5_2 = true
       ·subst c18
        have H1 : (if x7_12 = 0 then (if x6_12 < 0 then (sect_Check.j2 kj12 true) else (sect_Check.j2 kj12 (decide (x6_12 > 4096)))) else (sect_Check.j2 kj12 true)) = some r := by rw [if_pos rfl] at H;exact H
        clear H;have H := H1;clear H1
        by_cases c19 : x7_12 = 0
        ·rw [if_pos c19] at H
         have c19b0 : (x7_12 == 0) = true := beq_iff_eq.mpr c19;have c19b1 : (x7_12 != 0) = false := bne_eq_false_iff_eq.mpr c19;clear c19
         by_cases c20 : x6_12 < 0
         ·rw [if_pos c20] at H
          have c20b0 : decide (x6_12 < 0) = true := decide_eq_true c20;clear c20;have H' := am0 H;clear H;go_wp2
          repeat (go_quiet (fail);try go_wp2)
          go_meet
          case rel => exact ⟨_,(true),(by first | rfl | (simp;done) | (simp [*];done)),H',⟨by have := HJ2.out;have := HJ12.out;first | omega | exact Nat.le_refl _⟩,⟨by (with_reducible repeat (first | refine blk_drewN ?_ _ | refine blk_drew ?_ | refine blk_alloc ?_ _));exact BK399.out⟩,⟨by repeat (first | (with_reducible first | exact HB.out | apply below_alloc | apply pw_below_drewN | apply below_drew1 | refine below_set ?_ GE399.out) | exact HB.out)⟩⟩
         rw [if_neg c20] at H;have c20b0 : decide (x6_12 < 0) = false := decide_eq_false c20;clear c20;have H' := am0 H;clear H;go_wp2
         repeat (go_quiet (fail);try go_wp2)
         go_meet
         case rel => exact ⟨_,(decide (x6_12 > 4096)),(by first | rfl | (simp;done) | (simp [*];done)),H',⟨by have := HJ2.out;have := HJ12.out;first | omega | exact Nat.le_refl _⟩,⟨by (with_reducible repeat (first | refine blk_drewN ?_ _ | refine blk_drew ?_ | refine blk_alloc ?_ _));exact BK399.out⟩,⟨by repeat (first | (with_reducible first | exact HB.out | apply below_alloc | apply pw_below_drewN | apply below_drew1 | refine below_set ?_ GE399.out) | exact HB.out)⟩⟩
        rw [if_neg c19] at H;have c19b0 : (x7_12 == 0) = false := beq_eq_false_iff_ne.mpr c19;have c19b1 : (x7_12 != 0) = true := bne_iff_ne.mpr c19;have H' := am0 H;clear H;go_wp2
        repeat (go_quiet (fail);try go_wp2)
        go_meet
        case rel => exact ⟨_,(true),(by first | rfl | (simp;done) | (simp [*];done)),H',⟨by have := HJ2.out;have := HJ12.out;first | omega | exact Nat.le_refl _⟩,⟨by (with_reducible repeat (first | refine blk_drewN ?_ _ | refine blk_drew ?_ | refine blk_alloc ?_ _));exact BK399.out⟩,⟨by repeat (first | (with_reducible first | exact HB.out | apply below_alloc | apply pw_below_drewN | apply below_drew1 | refine below_set ?_ GE399.out) | exact HB.out)⟩⟩
       replace c18 := Bool.eq_false_iff.mpr c18;subst c18;have H1 : (sect_Check.j2 kj12 true) = some r := by rw [if_neg (show ¬ (false = true) by decide)] at H;exact H
       clear H;have H := H1;clear H1;have H' := am0 H;clear H;go_wp2
       repeat (go_quiet (fail);try go_wp2)
       go_meet
       case rel => exact ⟨_,(true),(by first | rfl | (simp;done) | (simp [*];done)),H',⟨by have := HJ2.out;have := HJ12.out;first | omega | exact Nat.le_refl _⟩,⟨by (with_reducible repeat (first | refine blk_drewN ?_ _ | refine blk_drew ?_ | refine blk_alloc ?_ _));exact BK399.out⟩,⟨by repeat (first | (with_reducible first | exact HB.out | apply below_alloc | apply pw_below_drewN | apply below_drew1 | refine below_set ?_ GE399.out) | exact HB.out)⟩⟩
      rw [if_neg c17] at H;have c17b0 : (t401 == 0) = false := beq_eq_false_iff_ne.mpr c17;have c17b1 : (t401 != 0) = true := bne_iff_ne.mpr c17
      (first | rw [c17b0] | (simp only [i64_w,i32_w];rw [c17b0]) | skip)
      have H' := am0 H;clear H;go_wp2
      repeat (go_quiet (fail);try go_wp2)
      go_meet
      case rel => exact ⟨_,(true),(by first | rfl | (simp;done) | (simp [*];done)),H',⟨by have := HJ2.out;have := HJ12.out;first | omega | exact Nat.le_refl _⟩,⟨by (with_reducible repeat (first | refine blk_drewN ?_ _ | refine blk_drew ?_ | refine blk_alloc ?_ _));exact BK399.out⟩,⟨by repeat (first | (with_reducible first | exact HB.out | apply below_alloc | apply pw_below_drewN | apply below_drew1 | refine below_set ?_ GE399.out) | exact HB.out)⟩⟩
     case rest =>
      clear HC16;try clear c1
      try clear c2
      try clear p2
      try clear c3
      try clear c7
      try clear c7b0
      try clear c8
      try clear c8b0
      try clear c15
      try clear c15b0
      try clear c15b1
      try clear c17
      try clear c17b0
      try clear c17b1
      try clear c18
      try clear c19
      try clear c19b0
      try clear c19b1
      try clear c20
      try clear c20b0
      try clear hcz10_0
      try clear hcz10_1
      try clear hcz10_2
      try clear hcz10_3
      try clear hcz11_0
      try clear hcz11_1
      try clear hcz11_2
      try clear hcz11_3
      try clear hcz12_0
      try clear hcz12_1
      try clear hcz12_2
      try clear hcz12_3
      try clear hcz14_0
      try clear hcz14_1
      try clear hcz14_2
      try clear hcz14_3
      try clear hcz5_0
      try clear hcz5_1
      try clear hcz5_2
      try clear hcz5_3
      try clear hfz10_0
      try clear hfz10_1
      try clear hfz10_2
      try clear hfz10_3
      try clear hfz11_0
      try clear hfz11_1
      try clear hfz11_2
      try clear hfz11_3
      try clear hfz12_0
      try clear hfz12_1
      try clear hfz12_2
      try clear hfz12_3
      try clear hfz14_0
      try clear hfz14_1
      try clear hfz14_2
      try clear hfz14_3
      try clear hfz5_0
      try clear hfz5_1
      try clear hfz5_2
      try clear hfz5_3
      try clear p2
      obtain ⟨kq,x55_15,rfl,HA,HJ15,BK399,HB⟩ := hcut
      cases kq with
      | zero => exact absurd HA.out (by simp [sect_Check.j2])
      | succ kj15 =>
       have H := HA.out;clear HA;simp only [sect_Check.j2] at H
       by_cases c21 : x55_15 = true
       ·subst c21
        have H1 : (some 8) = some r := by rw [if_pos rfl] at H;exact H
        clear H;have H := H1;clear H1;obtain rfl := Option.some.inj H;go_wp2
        repeat (go_quiet (fail);try go_wp2)
        go_ret
        exact ⟨by first | rfl | (simp [errW_none,errW_some] <;> rfl) | (simp [*,errW_none,errW_some] <;> rfl),by repeat (first | (with_reducible first | exact HB.out | apply below_alloc | apply pw_below_drewN | apply below_drew1 | refine below_set ?_ GE399.out) | exact HB.out)⟩
       replace c21 := Bool.eq_false_iff.mpr c21;subst c21;have H1 : (some 0) = some r := by rw [if_neg (show ¬ (false = true) by decide)] at H;exact H
       clear H;have H := H1;clear H1;obtain rfl := Option.some.inj H;go_wp2
       repeat (go_quiet (fail);try go_wp2)
       go_ret
       exact ⟨by first | rfl | (simp [errW_none,errW_some] <;> rfl) | (simp [*,errW_none,errW_some] <;> rfl),by repeat (first | (with_reducible first | exact HB.out | apply below_alloc | apply pw_below_drewN | apply below_drew1 | refine below_set ?_ GE399.out) | exact HB.out)⟩
def sym_stands.j0 : Nat → Int → Bool → Bool → ByteArray → Int → Bool → Int → Int → Int → Option (Bool)
 | 0,_,_,_,_,_,_,_,_,_ => none
 | k + 1,x1,x5,x10,x404000,x404001,x404002,x404003,x404004,x404005 => if x10 = true then (some false) else (if x404003 = 0 then (if x5 = true then (some false) else (if x404004 = 0 then (some (x404005 == 0)) else (some false))) else (if x404003 = (-1) then ((sym_in.f x404004 (-2147483648) 4294967295).bind fun t404 => (if t404 = true then (some (x404005 == 0)) else (some false))) else (if x404003 = (-2) then ((sect_Check.f k (⟨#[46,98,115,115]⟩ : ByteArray) x404004 ([] : List Int) 0).bind fun t405 => (if t405 = 0 then ((sym_in.f x404005 1 4096).bind fun t406 => (if t406 = true then (some (x404001 == 1)) else (some false))) else (some false))) else ((sym_in.f x404003 1 x1).bind fun t407 => (if t407 = true then ((sym_in.f x404004 0 4096).bind fun t408 => (if t408 = true then ((sym_in.f x404005 0 4096).bind fun t409 => (some t409)) else (some false))) else (some false))))))
def sym_stands.f (k : Nat) (a0_0 : ByteArray) (a0_1 : Int) (a0_2 : Bool) (a0_3 : Int) (a0_4 : Int) (a0_5 : Int) (a1 : Int) : Option (Bool) := if a0_1 > 2 then (sym_stands.j0 k a1 (a0_1 == 0) (decide (a0_1 > 2)) a0_0 a0_1 a0_2 a0_3 a0_4 a0_5) else (if a0_2 = true then (sym_stands.j0 k a1 (a0_1 == 0) (a0_1 == 0) a0_0 a0_1 a0_2 a0_3 a0_4 a0_5) else (sym_stands.j0 k a1 (a0_1 == 0) false a0_0 a0_1 a0_2 a0_3 a0_4 a0_5))
theorem sym_stands.mono_l : ∀ k,(∀ y0 y1 y2 y3 y4 y5 y6 y7 y8,LeO (sym_stands.j0 k y0 y1 y2 y3 y4 y5 y6 y7 y8) (sym_stands.j0 (k + 1) y0 y1 y2 y3 y4 y5 y6 y7 y8))
 | 0 => fun _ _ _ _ _ _ _ _ _ r h => by simp [sym_stands.j0] at h
 | k + 1 => by
  have ih0 := sym_stands.mono_l k;intro y0 y1 y2 y3 y4 y5 y6 y7 y8;unfold sym_stands.j0;repeat' first
  | (with_reducible exact ih0 _ _ _ _ _ _ _ _ _)
  | (with_reducible exact sect_Check.mono _ _ _ _ _)
  | (with_reducible exact LeO.refl _)
  | (with_reducible exact LeO.none _)
  | (with_reducible refine LeO.ite ?_ ?_)
  | (with_reducible refine LeO.bind ?_ (fun _ => ?_))
  | exact ih0 _ _ _ _ _ _ _ _ _
  | exact sect_Check.mono _ _ _ _ _
  | exact LeO.none _
  | refine LeO.ite ?_ ?_
  | refine LeO.bind ?_ (fun _ => ?_)
theorem sym_stands.mono : ∀ a0 a1 a2 a3 a4 a5 a6 k,LeO (sym_stands.f k a0 a1 a2 a3 a4 a5 a6) (sym_stands.f (k + 1) a0 a1 a2 a3 a4 a5 a6) := by
 intro a0 a1 a2 a3 a4 a5 a6 k;have ih0 := sym_stands.mono_l k;unfold sym_stands.f
 repeat' first
   | (with_reducible exact ih0 _ _ _ _ _ _ _ _ _)
   | (with_reducible exact sect_Check.mono _ _ _ _ _)
   | (with_reducible exact LeO.refl _)
   | (with_reducible exact LeO.none _)
   | (with_reducible refine LeO.ite ?_ ?_)
   | (with_reducible refine LeO.bind ?_ (fun _ => ?_))
   | exact ih0 _ _ _ _ _ _ _ _ _
   | exact sect_Check.mono _ _ _ _ _
   | exact LeO.none _
   | refine LeO.ite ?_ ?_
   | refine LeO.bind ?_ (fun _ => ?_)
set_option maxHeartbeats 8000000 in
set_option maxRecDepth 100000 in
theorem sym_stands.calls (k : Nat) (a0_0 : ByteArray) (a0_1 : Int) (a0_2 : Bool) (a0_3 : Int) (a0_4 : Int) (a0_5 : Int) (a1 : Int) (r : Bool) (w : World) (h : sym_stands.f k a0_0 a0_1 a0_2 a0_3 a0_4 a0_5 a1 = some r) :
  Calls Tryd.prog 62 #[.agg #[.string a0_0, .int .u8 a0_1, .bool a0_2, .int .i64 a0_3, .int .i64 a0_4, .int .i64 a0_5], .int .i64 a1] w fun e w' => e = .returned (.bool r) ∧ Below w.heap.size w w' := by
 have hu40 := Tryd.underlying40;have hu72 := Tryd.underlying72;have HB := am0 (Below.refl w.heap.size w);have H : (if a0_1 > 2 then (sym_stands.j0 k a1 (a0_1 == 0) (decide (a0_1 > 2)) a0_0 a0_1 a0_2 a0_3 a0_4 a0_5) else (if a0_2 = true then (sym_stands.j0 k a1 (a0_1 == 0) (a0_1 == 0) a0_0 a0_1 a0_2 a0_3 a0_4 a0_5) else (sym_stands.j0 k a1 (a0_1 == 0) false a0_0 a0_1 a0_2 a0_3 a0_4 a0_5))) = some r := h;clear h;have HC3 := am0 H;clear H;go_enter Tryd.func62,Tryd.ntmps62
 go_upto_if 10 with (first | ((with_reducible refine gate_dst (N := 2) rfl ?_);refine box_event ?hg (N := 2) ?hd (cs := #[.string a0_0, .int .u8 a0_1, .bool a0_2, .int .i64 a0_3, .int .i64 a0_4, .int .i64 a0_5]) (t := 40) ?hr ?_;(case hd => rfl);(case hg => rfl);(case hr => first | (go_simp;done) | (go_simp;rfl));intro gb403 hg w4 hbox hb;have n0_ := am0 (below_step (by repeat (first | (with_reducible first | exact HB.out | apply below_alloc | apply pw_below_drewN | apply below_drew1) | exact HB.out)) hb);have n1_ := am0 (hbox);have n2_ := am0 ((by rw [hg];exact (below_size (by repeat (first | (with_reducible first | exact HB.out | apply below_alloc | apply pw_below_drewN | apply below_drew1) | exact HB.out))) : w.heap.size ≤ gb403));have n3_ := am0 ((by rw [hg];exact (below_size (by repeat (first | (with_reducible first | exact HB.out | apply below_alloc | apply pw_below_drewN | apply below_drew1) | exact HB.out))) : w.heap.size ≤ gb403));clear HB;have HB := n0_;have BK403 := n1_;have GW403 := n2_;have GE403 := n3_;clear n0_ n1_ n2_ n3_;clear hb hbox hg;have hcz5_0 : w4.cell? ⟨gb403,0,none⟩ = some (.string a0_0) := (blk_cell BK403.out 0).trans rfl;have hcz5_1 : w4.cell? ⟨gb403,1,none⟩ = some (.int .u8 a0_1) := (blk_cell BK403.out 1).trans rfl;have hcz5_2 : w4.cell? ⟨gb403,2,none⟩ = some (.bool a0_2) := (blk_cell BK403.out 2).trans rfl;have hcz5_3 : w4.cell? ⟨gb403,3,none⟩ = some (.int .i64 a0_3) := (blk_cell BK403.out 3).trans rfl;have hcz5_4 : w4.cell? ⟨gb403,4,none⟩ = some (.int .i64 a0_4) := (blk_cell BK403.out 4).trans rfl;have hcz5_5 : w4.cell? ⟨gb403,5,none⟩ = some (.int .i64 a0_5) := (blk_cell BK403.out 5).trans rfl;have hfz5_0 := blk_frozen BK403.out 0;have hfz5_1 := blk_frozen BK403.out 1;have hfz5_2 := blk_frozen BK403.out 2;have hfz5_3 := blk_frozen BK403.out 3;have hfz5_4 := blk_frozen BK403.out 4;have hfz5_5 := blk_frozen BK403.out 5))
 (try simp only [Act.put,List.setIfInBounds_toArray,List.set_cons_zero,List.set_cons_succ])
 go_cut [10] (fun v10 wc => ∃ (kq : Nat) (x10_2 : Bool),v10 = .bool x10_2 ∧ Aside0 (sym_stands.j0 kq a1 (a0_1 == 0) x10_2 a0_0 a0_1 a0_2 a0_3 a0_4 a0_5 = some r) ∧ Aside0 (kq ≤ k) ∧ Aside0 (wc.heap[gb403]? = some (.cells #[.string a0_0, .int .u8 a0_1, .bool a0_2, .int .i64 a0_3, .int .i64 a0_4, .int .i64 a0_5] 40 (0,0))) ∧ Aside0 (Below w.heap.size w wc))
 case first =>
  have H := HC3.out;clear HC3
  by_cases c6 : a0_1 > 2
  ·rw [if_pos c6] at H
   have c6b0 : decide (2 < a0_1) = true := decide_eq_true c6;clear c6
   (first | rw [c6b0] | (simp only [i64_w,i32_w];rw [c6b0]) | skip)
   have H' := am0 H;clear H;go_wp2
   go_meet
   case rel => exact ⟨_,(decide (a0_1 > 2)),(by first | rfl | (simp;done) | (simp [*];done)),H',⟨by first | omega | exact Nat.le_refl _⟩,⟨by (with_reducible repeat (first | refine blk_drewN ?_ _ | refine blk_drew ?_ | refine blk_alloc ?_ _));exact BK403.out⟩,⟨by repeat (first | (with_reducible first | exact HB.out | apply below_alloc | apply pw_below_drewN | apply below_drew1 | refine below_set ?_ GE403.out) | exact HB.out)⟩⟩
  rw [if_neg c6] at H;have c6b0 : decide (2 < a0_1) = false := decide_eq_false c6;clear c6
  (first | rw [c6b0] | (simp only [i64_w,i32_w];rw [c6b0]) | skip)
  by_cases c7 : a0_2 = true
  ·subst c7
   have H1 : (sym_stands.j0 k a1 (a0_1 == 0) (a0_1 == 0) a0_0 a0_1 true a0_3 a0_4 a0_5) = some r := by rw [if_pos rfl] at H;exact H
   clear H;have H := H1;clear H1;have H' := am0 H;clear H;have hcz8_0 : w4.cell? ⟨gb403,0,none⟩ = some (.string a0_0) := (blk_cell BK403.out 0).trans rfl;have hcz8_1 : w4.cell? ⟨gb403,1,none⟩ = some (.int .u8 a0_1) := (blk_cell BK403.out 1).trans rfl;have hcz8_2 : w4.cell? ⟨gb403,2,none⟩ = some (.bool true) := (blk_cell BK403.out 2).trans rfl;have hcz8_3 : w4.cell? ⟨gb403,3,none⟩ = some (.int .i64 a0_3) := (blk_cell BK403.out 3).trans rfl;have hcz8_4 : w4.cell? ⟨gb403,4,none⟩ = some (.int .i64 a0_4) := (blk_cell BK403.out 4).trans rfl;have hcz8_5 : w4.cell? ⟨gb403,5,none⟩ = some (.int .i64 a0_5) := (blk_cell BK403.out 5).trans rfl;have hfz8_0 := blk_frozen BK403.out 0;have hfz8_1 := blk_frozen BK403.out 1;have hfz8_2 := blk_frozen BK403.out 2;have hfz8_3 := blk_frozen BK403.out 3;have hfz8_4 := blk_frozen BK403.out 4;have hfz8_5 := blk_frozen BK403.out 5;go_wp2
   go_meet
   case rel => exact ⟨_,((a0_1 == 0)),(by first | rfl | (simp;done) | (simp [*];done)),H',⟨by first | omega | exact Nat.le_refl _⟩,⟨by (with_reducible repeat (first | refine blk_drewN ?_ _ | refine blk_drew ?_ | refine blk_alloc ?_ _));exact BK403.out⟩,⟨by repeat (first | (with_reducible first | exact HB.out | apply below_alloc | apply pw_below_drewN | apply below_drew1 | refine below_set ?_ GE403.out) | exact HB.out)⟩⟩
  replace c7 := Bool.eq_false_iff.mpr c7;subst c7;have H1 : (sym_stands.j0 k a1 (a0_1 == 0) false a0_0 a0_1 false a0_3 a0_4 a0_5) = some r := by rw [if_neg (show ¬ (false = true) by decide)] at H;exact H
  clear H;have H := H1;clear H1;have H' := am0 H;clear H;have hcz9_0 : w4.cell? ⟨gb403,0,none⟩ = some (.string a0_0) := (blk_cell BK403.out 0).trans rfl;have hcz9_1 : w4.cell? ⟨gb403,1,none⟩ = some (.int .u8 a0_1) := (blk_cell BK403.out 1).trans rfl;have hcz9_2 : w4.cell? ⟨gb403,2,none⟩ = some (.bool false) := (blk_cell BK403.out 2).trans rfl;have hcz9_3 : w4.cell? ⟨gb403,3,none⟩ = some (.int .i64 a0_3) := (blk_cell BK403.out 3).trans rfl;have hcz9_4 : w4.cell? ⟨gb403,4,none⟩ = some (.int .i64 a0_4) := (blk_cell BK403.out 4).trans rfl;have hcz9_5 : w4.cell? ⟨gb403,5,none⟩ = some (.int .i64 a0_5) := (blk_cell BK403.out 5).trans rfl;have hfz9_0 := blk_frozen BK403.out 0;have hfz9_1 := blk_frozen BK403.out 1;have hfz9_2 := blk_frozen BK403.out 2;have hfz9_3 := blk_frozen BK403.out 3;have hfz9_4 := blk_frozen BK403.out 4;have hfz9_5 := blk_frozen BK403.out 5;go_wp2
  go_meet
  case rel => exact ⟨_,(false),(by first | rfl | (simp;done) | (simp [*];done)),H',⟨by first | omega | exact Nat.le_refl _⟩,⟨by (with_reducible repeat (first | refine blk_drewN ?_ _ | refine blk_drew ?_ | refine blk_alloc ?_ _));exact BK403.out⟩,⟨by repeat (first | (with_reducible first | exact HB.out | apply below_alloc | apply pw_below_drewN | apply below_drew1 | refine below_set ?_ GE403.out) | exact HB.out)⟩⟩
 case rest =>
  clear HC3;try clear p2
  try clear c6
  try clear c6b0
  try clear c7
  try clear hcz5_0
  try clear hcz5_1
  try clear hcz5_2
  try clear hcz5_3
  try clear hcz5_4
  try clear hcz5_5
  try clear hcz8_0
  try clear hcz8_1
  try clear hcz8_2
  try clear hcz8_3
  try clear hcz8_4
  try clear hcz8_5
  try clear hcz9_0
  try clear hcz9_1
  try clear hcz9_2
  try clear hcz9_3
  try clear hcz9_4
  try clear hcz9_5
  try clear hfz5_0
  try clear hfz5_1
  try clear hfz5_2
  try clear hfz5_3
  try clear hfz5_4
  try clear hfz5_5
  try clear hfz8_0
  try clear hfz8_1
  try clear hfz8_2
  try clear hfz8_3
  try clear hfz8_4
  try clear hfz8_5
  try clear hfz9_0
  try clear hfz9_1
  try clear hfz9_2
  try clear hfz9_3
  try clear hfz9_4
  try clear hfz9_5
  obtain ⟨kq,x10_2,rfl,HA,HJ2,BK403,HB⟩ := hcut
  cases kq with
  | zero => exact absurd HA.out (by simp [sym_stands.j0])
  | succ kj2 =>
   have H := HA.out;clear HA;simp only [sym_stands.j0] at H
   by_cases c10 : x10_2 = true
   ·subst c10
    have H1 : (some false) = some r := by rw [if_pos rfl] at H;exact H
    clear H;have H := H1;clear H1;obtain rfl := Option.some.inj H;go_wp2
    go_ret
    exact ⟨by first | rfl | (simp [errW_none,errW_some] <;> rfl) | (simp [*,errW_none,errW_some] <;> rfl),by repeat (first | (with_reducible first | exact HB.out | apply below_alloc | apply pw_below_drewN | apply below_drew1 | refine below_set ?_ GE403.out) | exact HB.out)⟩
   replace c10 := Bool.eq_false_iff.mpr c10;subst c10;have H1 : (if a0_3 = 0 then (if (a0_1 == 0) = true then (some false) else (if a0_4 = 0 then (some (a0_5 == 0)) else (some false))) else (if a0_3 = (-1) then ((sym_in.f a0_4 (-2147483648) 4294967295).bind fun t404 => (if t404 = true then (some (a0_5 == 0)) else (some false))) else (if a0_3 = (-2) then ((sect_Check.f kj2 (⟨#[46,98,115,115]⟩ : ByteArray) a0_4 ([] : List Int) 0).bind fun t405 => (if t405 = 0 then ((sym_in.f a0_5 1 4096).bind fun t406 => (if t406 = true then (some (a0_1 == 1)) else (some false))) else (some false))) else ((sym_in.f a0_3 1 a1).bind fun t407 => (if t407 = true then ((sym_in.f a0_4 0 4096).bind fun t408 => (if t408 = true then ((sym_in.f a0_5 0 4096).bind fun t409 => (some t409)) else (some false))) else (some false)))))) = some r := by rw [if_neg (show ¬ (false = true) by decide)] at H;exact H
   clear H;have H := H1;clear H1
   by_cases c11 : a0_3 = 0
   ·rw [if_pos c11] at H
    have c11b0 : (a0_3 == 0) = true := beq_iff_eq.mpr c11;have c11b1 : (a0_3 != 0) = false := bne_eq_false_iff_eq.mpr c11;clear c11
    by_cases c12 : (a0_1 == 0) = true
    ·rw [if_pos c12] at H
     have c12b0 : (a0_1 == 0) = true := c12
     (try (have c12b1 : decide (a0_1 = 0) = true := by simpa using c12))
     (try (have c12b2 : (a0_1 == 0) = true := by simpa using c12))
     clear c12;obtain rfl := Option.some.inj H;have hcz13_0 : wc.cell? ⟨gb403,0,none⟩ = some (.string a0_0) := (blk_cell BK403.out 0).trans rfl;have hcz13_1 : wc.cell? ⟨gb403,1,none⟩ = some (.int .u8 a0_1) := (blk_cell BK403.out 1).trans rfl;have hcz13_2 : wc.cell? ⟨gb403,2,none⟩ = some (.bool a0_2) := (blk_cell BK403.out 2).trans rfl;have hcz13_3 : wc.cell? ⟨gb403,3,none⟩ = some (.int .i64 a0_3) := (blk_cell BK403.out 3).trans rfl;have hcz13_4 : wc.cell? ⟨gb403,4,none⟩ = some (.int .i64 a0_4) := (blk_cell BK403.out 4).trans rfl;have hcz13_5 : wc.cell? ⟨gb403,5,none⟩ = some (.int .i64 a0_5) := (blk_cell BK403.out 5).trans rfl;have hfz13_0 := blk_frozen BK403.out 0;have hfz13_1 := blk_frozen BK403.out 1;have hfz13_2 := blk_frozen BK403.out 2;have hfz13_3 := blk_frozen BK403.out 3;have hfz13_4 := blk_frozen BK403.out 4;have hfz13_5 := blk_frozen BK403.out 5;go_wp2
     go_ret
     exact ⟨by first | rfl | (simp [errW_none,errW_some] <;> rfl) | (simp [*,errW_none,errW_some] <;> rfl),by repeat (first | (with_reducible first | exact HB.out | apply below_alloc | apply pw_below_drewN | apply below_drew1 | refine below_set ?_ GE403.out) | exact HB.out)⟩
    rw [if_neg c12] at H;have c12b0 : (a0_1 == 0) = false := by simpa using c12
    (try (have c12b1 : decide (a0_1 = 0) = false := by simpa using c12))
    (try (have c12b2 : (a0_1 == 0) = false := by simpa using c12))
    (try (have c12b3 : ¬ (a0_1 = 0) := by simpa using c12))
    clear c12
    by_cases c14 : a0_4 = 0
    ·rw [if_pos c14] at H
     have c14b0 : (a0_4 == 0) = true := beq_iff_eq.mpr c14;have c14b1 : (a0_4 != 0) = false := bne_eq_false_iff_eq.mpr c14;clear c14;obtain rfl := Option.some.inj H;have hcz15_0 : wc.cell? ⟨gb403,0,none⟩ = some (.string a0_0) := (blk_cell BK403.out 0).trans rfl;have hcz15_1 : wc.cell? ⟨gb403,1,none⟩ = some (.int .u8 a0_1) := (blk_cell BK403.out 1).trans rfl;have hcz15_2 : wc.cell? ⟨gb403,2,none⟩ = some (.bool a0_2) := (blk_cell BK403.out 2).trans rfl;have hcz15_3 : wc.cell? ⟨gb403,3,none⟩ = some (.int .i64 a0_3) := (blk_cell BK403.out 3).trans rfl;have hcz15_4 : wc.cell? ⟨gb403,4,none⟩ = some (.int .i64 a0_4) := (blk_cell BK403.out 4).trans rfl;have hcz15_5 : wc.cell? ⟨gb403,5,none⟩ = some (.int .i64 a0_5) := (blk_cell BK403.out 5).trans rfl;have hfz15_0 := blk_frozen BK403.out 0;have hfz15_1 := blk_frozen BK403.out 1;have hfz15_2 := blk_frozen BK403.out 2;have hfz15_3 := blk_frozen BK403.out 3;have hfz15_4 := blk_frozen BK403.out 4;have hfz15_5 := blk_frozen BK403.out 5;go_wp2
     go_ret
     exact ⟨by first | rfl | (simp [errW_none,errW_some] <;> rfl) | (simp [*,errW_none,errW_some] <;> rfl),by repeat (first | (with_reducible first | exact HB.out | apply below_alloc | apply pw_below_drewN | apply below_drew1 | refine below_set ?_ GE403.out) | exact HB.out)⟩
    rw [if_neg c14] at H;have c14b0 : (a0_4 == 0) = false := beq_eq_false_iff_ne.mpr c14;have c14b1 : (a0_4 != 0) = true := bne_iff_ne.mpr c14;obtain rfl := Option.some.inj H;have hcz16_0 : wc.cell? ⟨gb403,0,none⟩ = some (.string a0_0) := (blk_cell BK403.out 0).trans rfl;have hcz16_1 : wc.cell? ⟨gb403,1,none⟩ = some (.int .u8 a0_1) := (blk_cell BK403.out 1).trans rfl;have hcz16_2 : wc.cell? ⟨gb403,2,none⟩ = some (.bool a0_2) := (blk_cell BK403.out 2).trans rfl;have hcz16_3 : wc.cell? ⟨gb403,3,none⟩ = some (.int .i64 a0_3) := (blk_cell BK403.out 3).trans rfl;have hcz16_4 : wc.cell? ⟨gb403,4,none⟩ = some (.int .i64 a0_4) := (blk_cell BK403.out 4).trans rfl;have hcz16_5 : wc.cell? ⟨gb403,5,none⟩ = some (.int .i64 a0_5) := (blk_cell BK403.out 5).trans rfl;have hfz16_0 := blk_frozen BK403.out 0;have hfz16_1 := blk_frozen BK403.out 1;have hfz16_2 := blk_frozen BK403.out 2;have hfz16_3 := blk_frozen BK403.out 3;have hfz16_4 := blk_frozen BK403.out 4;have hfz16_5 := blk_frozen BK403.out 5;go_wp2
    go_ret
    exact ⟨by first | rfl | (simp [errW_none,errW_some] <;> rfl) | (simp [*,errW_none,errW_some] <;> rfl),by repeat (first | (with_reducible first | exact HB.out | apply below_alloc | apply pw_below_drewN | apply below_drew1 | refine below_set ?_ GE403.out) | exact HB.out)⟩
   rw [if_neg c11] at H;have c11b0 : (a0_3 == 0) = false := beq_eq_false_iff_ne.mpr c11;have c11b1 : (a0_3 != 0) = true := bne_iff_ne.mpr c11
   by_cases c17 : a0_3 = (-1)
   ·rw [if_pos c17] at H
    have c17b0 : (a0_3 == (-1)) = true := beq_iff_eq.mpr c17;have c17b1 : (a0_3 != (-1)) = false := bne_eq_false_iff_eq.mpr c17;clear c17;replace H := Option.bind_eq_some_iff.mp H;obtain ⟨t404,A180,H⟩ := H;replace H : (if t404 = true then (some (a0_5 == 0)) else (some false)) = some r := H;have A18 := am0 A180;clear A180
    by_cases c19 : t404 = true
    ·subst c19
     have H1 : (some (a0_5 == 0)) = some r := by rw [if_pos rfl] at H;exact H
     clear H;have H := H1;clear H1;obtain rfl := Option.some.inj H;have hcz20_0 : wc.cell? ⟨gb403,0,none⟩ = some (.string a0_0) := (blk_cell BK403.out 0).trans rfl;have hcz20_1 : wc.cell? ⟨gb403,1,none⟩ = some (.int .u8 a0_1) := (blk_cell BK403.out 1).trans rfl;have hcz20_2 : wc.cell? ⟨gb403,2,none⟩ = some (.bool a0_2) := (blk_cell BK403.out 2).trans rfl;have hcz20_3 : wc.cell? ⟨gb403,3,none⟩ = some (.int .i64 a0_3) := (blk_cell BK403.out 3).trans rfl;have hcz20_4 : wc.cell? ⟨gb403,4,none⟩ = some (.int .i64 a0_4) := (blk_cell BK403.out 4).trans rfl;have hcz20_5 : wc.cell? ⟨gb403,5,none⟩ = some (.int .i64 a0_5) := (blk_cell BK403.out 5).trans rfl;have hfz20_0 := blk_frozen BK403.out 0;have hfz20_1 := blk_frozen BK403.out 1;have hfz20_2 := blk_frozen BK403.out 2;have hfz20_3 := blk_frozen BK403.out 3;have hfz20_4 := blk_frozen BK403.out 4;have hfz20_5 := blk_frozen BK403.out 5;go_wp2_with (first | ((with_reducible refine gate_callee (f := 60) rfl ?_);refine goesL_ (some 41) rfl rfl Tryd.func60 (by kernel_rfl) rfl #[.int .i64 a0_4, .int .i64 (-2147483648), .int .i64 4294967295] rfl (by (try simp only [List.map_toArray,List.map_cons,List.map_nil]);first | done | rfl | (simp only [List.length_drop,List.length_take];rfl)) ?_;(with_reducible refine (sym_in.calls a0_4 (-2147483648) 4294967295 true _ A18.out).mono ?_);rintro e w' ⟨rfl,⟨nd,rfl⟩⟩;refine ⟨_,rfl, ?_⟩))
     go_ret
     exact ⟨by first | rfl | (simp [errW_none,errW_some] <;> rfl) | (simp [*,errW_none,errW_some] <;> rfl),by repeat (first | (with_reducible first | exact HB.out | apply below_alloc | apply pw_below_drewN | apply below_drew1 | refine below_set ?_ GE403.out) | exact HB.out)⟩
    replace c19 := Bool.eq_false_iff.mpr c19;subst c19;have H1 : (some false) = some r := by rw [if_neg (show ¬ (false = true) by decide)] at H;exact H
    clear H;have H := H1;clear H1;obtain rfl := Option.some.inj H;have hcz21_0 : wc.cell? ⟨gb403,0,none⟩ = some (.string a0_0) := (blk_cell BK403.out 0).trans rfl;have hcz21_1 : wc.cell? ⟨gb403,1,none⟩ = some (.int .u8 a0_1) := (blk_cell BK403.out 1).trans rfl;have hcz21_2 : wc.cell? ⟨gb403,2,none⟩ = some (.bool a0_2) := (blk_cell BK403.out 2).trans rfl;have hcz21_3 : wc.cell? ⟨gb403,3,none⟩ = some (.int .i64 a0_3) := (blk_cell BK403.out 3).trans rfl;have hcz21_4 : wc.cell? ⟨gb403,4,none⟩ = some (.int .i64 a0_4) := (blk_cell BK403.out 4).trans rfl;have hcz21_5 : wc.cell? ⟨gb403,5,none⟩ = some (.int .i64 a0_5) := (blk_cell BK403.out 5).trans rfl;have hfz21_0 := blk_frozen BK403.out 0;have hfz21_1 := blk_frozen BK403.out 1;have hfz21_2 := blk_frozen BK403.out 2;have hfz21_3 := blk_frozen BK403.out 3;have hfz21_4 := blk_frozen BK403.out 4;have hfz21_5 := blk_frozen BK403.out 5;go_wp2_with (first | ((with_reducible refine gate_callee (f := 60) rfl ?_);refine goesL_ (some 41) rfl rfl Tryd.func60 (by kernel_rfl) rfl #[.int .i64 a0_4, .int .i64 (-2147483648), .int .i64 4294967295] rfl (by (try simp only [List.map_toArray,List.map_cons,List.map_nil]);first | done | rfl | (simp only [List.length_drop,List.length_take];rfl)) ?_;(with_reducible refine (sym_in.calls a0_4 (-2147483648) 4294967295 false _ A18.out).mono ?_);rintro e w' ⟨rfl,⟨nd,rfl⟩⟩;refine ⟨_,rfl, ?_⟩))
    go_ret
    exact ⟨by first | rfl | (simp [errW_none,errW_some] <;> rfl) | (simp [*,errW_none,errW_some] <;> rfl),by repeat (first | (with_reducible first | exact HB.out | apply below_alloc | apply pw_below_drewN | apply below_drew1 | refine below_set ?_ GE403.out) | exact HB.out)⟩
   rw [if_neg c17] at H;have c17b0 : (a0_3 == (-1)) = false := beq_eq_false_iff_ne.mpr c17;have c17b1 : (a0_3 != (-1)) = true := bne_iff_ne.mpr c17
   by_cases c22 : a0_3 = (-2)
   ·rw [if_pos c22] at H
    have c22b0 : (a0_3 == (-2)) = true := beq_iff_eq.mpr c22;have c22b1 : (a0_3 != (-2)) = false := bne_eq_false_iff_eq.mpr c22;clear c22;replace H := Option.bind_eq_some_iff.mp H;obtain ⟨t405,A230,H⟩ := H;replace H : (if t405 = 0 then ((sym_in.f a0_5 1 4096).bind fun t406 => (if t406 = true then (some (a0_1 == 1)) else (some false))) else (some false)) = some r := H;have A23 := am0 A230;clear A230
    by_cases c24 : t405 = 0
    ·rw [if_pos c24] at H
     have c24b0 : (t405 == 0) = true := beq_iff_eq.mpr c24;have c24b1 : (t405 != 0) = false := bne_eq_false_iff_eq.mpr c24;clear c24;replace H := Option.bind_eq_some_iff.mp H;obtain ⟨t406,A250,H⟩ := H;replace H : (if t406 = true then (some (a0_1 == 1)) else (some false)) = some r := H;have A25 := am0 A250;clear A250
     by_cases c26 : t406 = true
     ·subst c26
      have H1 : (some (a0_1 == 1)) = some r := by rw [if_pos rfl] at H;exact H
      clear H;have H := H1;clear H1;obtain rfl := Option.some.inj H;have hcz27_0 : wc.cell? ⟨gb403,0,none⟩ = some (.string a0_0) := (blk_cell BK403.out 0).trans rfl;have hcz27_1 : wc.cell? ⟨gb403,1,none⟩ = some (.int .u8 a0_1) := (blk_cell BK403.out 1).trans rfl;have hcz27_2 : wc.cell? ⟨gb403,2,none⟩ = some (.bool a0_2) := (blk_cell BK403.out 2).trans rfl;have hcz27_3 : wc.cell? ⟨gb403,3,none⟩ = some (.int .i64 a0_3) := (blk_cell BK403.out 3).trans rfl;have hcz27_4 : wc.cell? ⟨gb403,4,none⟩ = some (.int .i64 a0_4) := (blk_cell BK403.out 4).trans rfl;have hcz27_5 : wc.cell? ⟨gb403,5,none⟩ = some (.int .i64 a0_5) := (blk_cell BK403.out 5).trans rfl;have hfz27_0 := blk_frozen BK403.out 0;have hfz27_1 := blk_frozen BK403.out 1;have hfz27_2 := blk_frozen BK403.out 2;have hfz27_3 := blk_frozen BK403.out 3;have hfz27_4 := blk_frozen BK403.out 4;have hfz27_5 := blk_frozen BK403.out 5;go_wp2_with (first | ((with_reducible refine gate_callee (f := 33) rfl ?_);refine goesL_ (some 54) rfl rfl Tryd.func33 (by kernel_rfl) rfl #[.agg #[.string (⟨#[46,98,115,115]⟩ : ByteArray), .int .i64 a0_4, .slice none 0 0, .int .i64 0]] rfl (by (try simp only [List.map_toArray,List.map_cons,List.map_nil]);first | done | rfl | (simp only [List.length_drop,List.length_take];rfl)) ?_;(refine (sect_Check.calls kj2 (⟨#[46,98,115,115]⟩ : ByteArray) a0_4 _ _ ([] : List Int) 0 t405 _ ?side1 ?side2 A23.out).mono ?_);(case side1 => exact Kd.C_nil _ _);(case side2 => exact Nat.le_refl _);rintro e w28 ⟨rfl,hb⟩;refine ⟨_,rfl, ?_⟩;have n0_ := am0 (blk_below (g := gb403) (o := .cells #[.string a0_0, .int .u8 a0_1, .bool a0_2, .int .i64 a0_3, .int .i64 a0_4, .int .i64 a0_5] 40 (0,0)) (by (with_reducible repeat (first | refine blk_drewN ?_ _ | refine blk_drew ?_ | refine blk_alloc ?_ _));exact BK403.out) hb);have n1_ := am0 (below_step (by repeat (first | (with_reducible first | exact HB.out | apply below_alloc | apply pw_below_drewN | apply below_drew1 | refine below_set ?_ GE403.out) | exact HB.out)) hb);clear BK403;clear HB;have BK403 := n0_;have HB := n1_;clear n0_ n1_;(try clear hb);(try clear hb2);(try clear hk);(try clear hi);have hcz29_0 : w28.cell? ⟨gb403,0,none⟩ = some (.string a0_0) := (blk_cell BK403.out 0).trans rfl;have hcz29_1 : w28.cell? ⟨gb403,1,none⟩ = some (.int .u8 a0_1) := (blk_cell BK403.out 1).trans rfl;have hcz29_2 : w28.cell? ⟨gb403,2,none⟩ = some (.bool a0_2) := (blk_cell BK403.out 2).trans rfl;have hcz29_3 : w28.cell? ⟨gb403,3,none⟩ = some (.int .i64 a0_3) := (blk_cell BK403.out 3).trans rfl;have hcz29_4 : w28.cell? ⟨gb403,4,none⟩ = some (.int .i64 a0_4) := (blk_cell BK403.out 4).trans rfl;have hcz29_5 : w28.cell? ⟨gb403,5,none⟩ = some (.int .i64 a0_5) := (blk_cell BK403.out 5).trans rfl;have hfz29_0 := blk_frozen BK403.out 0;have hfz29_1 := blk_frozen BK403.out 1;have hfz29_2 := blk_frozen BK403.out 2;have hfz29_3 := blk_frozen BK403.out 3;have hfz29_4 := blk_frozen BK403.out 4;have hfz29_5 := blk_frozen BK403.out 5) | (go_at_call 60;(with_reducible refine (sym_in.calls a0_5 1 4096 true _ A25.out).mono ?_);rintro e w' ⟨rfl,⟨nd,rfl⟩⟩))
      go_ret
      exact ⟨by first | rfl | (simp [errW_none,errW_some] <;> rfl) | (simp [*,errW_none,errW_some] <;> rfl),by repeat (first | (with_reducible first | exact HB.out | apply below_alloc | apply pw_below_drewN | apply below_drew1 | refine below_set ?_ GE403.out) | exact HB.out)⟩
     replace c26 := Bool.eq_false_iff.mpr c26;subst c26;have H1 : (some false) = some r := by rw [if_neg (show ¬ (false = true) by decide)] at H;exact H
     clear H;have H := H1;clear H1;obtain rfl := Option.some.inj H;have hcz30_0 : wc.cell? ⟨gb403,0,none⟩ = some (.string a0_0) := (blk_cell BK403.out 0).trans rfl;have hcz30_1 : wc.cell? ⟨gb403,1,none⟩ = some (.int .u8 a0_1) := (blk_cell BK403.out 1).trans rfl;have hcz30_2 : wc.cell? ⟨gb403,2,none⟩ = some (.bool a0_2) := (blk_cell BK403.out 2).trans rfl;have hcz30_3 : wc.cell? ⟨gb403,3,none⟩ = some (.int .i64 a0_3) := (blk_cell BK403.out 3).trans rfl;have hcz30_4 : wc.cell? ⟨gb403,4,none⟩ = some (.int .i64 a0_4) := (blk_cell BK403.out 4).trans rfl;have hcz30_5 : wc.cell? ⟨gb403,5,none⟩ = some (.int .i64 a0_5) := (blk_cell BK403.out 5).trans rfl;have hfz30_0 := blk_frozen BK403.out 0;have hfz30_1 := blk_frozen BK403.out 1;have hfz30_2 := blk_frozen BK403.out 2;have hfz30_3 := blk_frozen BK403.out 3;have hfz30_4 := blk_frozen BK403.out 4;have hfz30_5 := blk_frozen BK403.out 5;go_wp2_with (first | ((with_reducible refine gate_callee (f := 33) rfl ?_);refine goesL_ (some 54) rfl rfl Tryd.func33 (by kernel_rfl) rfl #[.agg #[.string (⟨#[46,98,115,115]⟩ : ByteArray), .int .i64 a0_4, .slice none 0 0, .int .i64 0]] rfl (by (try simp only [List.map_toArray,List.map_cons,List.map_nil]);first | done | rfl | (simp only [List.length_drop,List.length_take];rfl)) ?_;(refine (sect_Check.calls kj2 (⟨#[46,98,115,115]⟩ : ByteArray) a0_4 _ _ ([] : List Int) 0 t405 _ ?side1 ?side2 A23.out).mono ?_);(case side1 => exact Kd.C_nil _ _);(case side2 => exact Nat.le_refl _);rintro e w31 ⟨rfl,hb⟩;refine ⟨_,rfl, ?_⟩;have n0_ := am0 (blk_below (g := gb403) (o := .cells #[.string a0_0, .int .u8 a0_1, .bool a0_2, .int .i64 a0_3, .int .i64 a0_4, .int .i64 a0_5] 40 (0,0)) (by (with_reducible repeat (first | refine blk_drewN ?_ _ | refine blk_drew ?_ | refine blk_alloc ?_ _));exact BK403.out) hb);have n1_ := am0 (below_step (by repeat (first | (with_reducible first | exact HB.out | apply below_alloc | apply pw_below_drewN | apply below_drew1 | refine below_set ?_ GE403.out) | exact HB.out)) hb);clear BK403;clear HB;have BK403 := n0_;have HB := n1_;clear n0_ n1_;(try clear hb);(try clear hb2);(try clear hk);(try clear hi);have hcz32_0 : w31.cell? ⟨gb403,0,none⟩ = some (.string a0_0) := (blk_cell BK403.out 0).trans rfl;have hcz32_1 : w31.cell? ⟨gb403,1,none⟩ = some (.int .u8 a0_1) := (blk_cell BK403.out 1).trans rfl;have hcz32_2 : w31.cell? ⟨gb403,2,none⟩ = some (.bool a0_2) := (blk_cell BK403.out 2).trans rfl;have hcz32_3 : w31.cell? ⟨gb403,3,none⟩ = some (.int .i64 a0_3) := (blk_cell BK403.out 3).trans rfl;have hcz32_4 : w31.cell? ⟨gb403,4,none⟩ = some (.int .i64 a0_4) := (blk_cell BK403.out 4).trans rfl;have hcz32_5 : w31.cell? ⟨gb403,5,none⟩ = some (.int .i64 a0_5) := (blk_cell BK403.out 5).trans rfl;have hfz32_0 := blk_frozen BK403.out 0;have hfz32_1 := blk_frozen BK403.out 1;have hfz32_2 := blk_frozen BK403.out 2;have hfz32_3 := blk_frozen BK403.out 3;have hfz32_4 := blk_frozen BK403.out 4;have hfz32_5 := blk_frozen BK403.out 5) | (go_at_call 60;(with_reducible refine (sym_in.calls a0_5 1 4096 false _ A25.out).mono ?_);rintro e w' ⟨rfl,⟨nd,rfl⟩⟩))
     go_ret
     exact ⟨by first | rfl | (simp [errW_none,errW_some] <;> rfl) | (simp [*,errW_none,errW_some] <;> rfl),by repeat (first | (with_reducible first | exact HB.out | apply below_alloc | apply pw_below_drewN | apply below_drew1 | refine below_set ?_ GE403.out) | exact HB.out)⟩
    rw [if_neg c24] at H;have c24b0 : (t405 == 0) = false := beq_eq_false_iff_ne.mpr c24;have c24b1 : (t405 != 0) = true := bne_iff_ne.mpr c24;obtain rfl := Option.some.inj H;have hcz33_0 : wc.cell? ⟨gb403,0,none⟩ = some (.string a0_0) := (blk_cell BK403.out 0).trans rfl;have hcz33_1 : wc.cell? ⟨gb403,1,none⟩ = some (.int .u8 a0_1) := (blk_cell BK403.out 1).trans rfl;have hcz33_2 : wc.cell? ⟨gb403,2,none⟩ = some (.bool a0_2) := (blk_cell BK403.out 2).trans rfl;have hcz33_3 : wc.cell? ⟨gb403,3,none⟩ = some (.int .i64 a0_3) := (blk_cell BK403.out 3).trans rfl;have hcz33_4 : wc.cell? ⟨gb403,4,none⟩ = some (.int .i64 a0_4) := (blk_cell BK403.out 4).trans rfl;have hcz33_5 : wc.cell? ⟨gb403,5,none⟩ = some (.int .i64 a0_5) := (blk_cell BK403.out 5).trans rfl;have hfz33_0 := blk_frozen BK403.out 0;have hfz33_1 := blk_frozen BK403.out 1;have hfz33_2 := blk_frozen BK403.out 2;have hfz33_3 := blk_frozen BK403.out 3;have hfz33_4 := blk_frozen BK403.out 4;have hfz33_5 := blk_frozen BK403.out 5;go_wp2_with (first | ((with_reducible refine gate_callee (f := 33) rfl ?_);refine goesL_ (some 54) rfl rfl Tryd.func33 (by kernel_rfl) rfl #[.agg #[.string (⟨#[46,98,115,115]⟩ : ByteArray), .int .i64 a0_4, .slice none 0 0, .int .i64 0]] rfl (by (try simp only [List.map_toArray,List.map_cons,List.map_nil]);first | done | rfl | (simp only [List.length_drop,List.length_take];rfl)) ?_;(refine (sect_Check.calls kj2 (⟨#[46,98,115,115]⟩ : ByteArray) a0_4 _ _ ([] : List Int) 0 t405 _ ?side1 ?side2 A23.out).mono ?_);(case side1 => exact Kd.C_nil _ _);(case side2 => exact Nat.le_refl _);rintro e w34 ⟨rfl,hb⟩;refine ⟨_,rfl, ?_⟩;have n0_ := am0 (blk_below (g := gb403) (o := .cells #[.string a0_0, .int .u8 a0_1, .bool a0_2, .int .i64 a0_3, .int .i64 a0_4, .int .i64 a0_5] 40 (0,0)) (by (with_reducible repeat (first | refine blk_drewN ?_ _ | refine blk_drew ?_ | refine blk_alloc ?_ _));exact BK403.out) hb);have n1_ := am0 (below_step (by repeat (first | (with_reducible first | exact HB.out | apply below_alloc | apply pw_below_drewN | apply below_drew1 | refine below_set ?_ GE403.out) | exact HB.out)) hb);clear BK403;clear HB;have BK403 := n0_;have HB := n1_;clear n0_ n1_;(try clear hb);(try clear hb2);(try clear hk);(try clear hi)))
    go_ret
    exact ⟨by first | rfl | (simp [errW_none,errW_some] <;> rfl) | (simp [*,errW_none,errW_some] <;> rfl),by repeat (first | (with_reducible first | exact HB.out | apply below_alloc | apply pw_below_drewN | apply below_drew1 | refine below_set ?_ GE403.out) | exact HB.out)⟩
   rw [if_neg c22] at H;have c22b0 : (a0_3 == (-2)) = false := beq_eq_false_iff_ne.mpr c22;have c22b1 : (a0_3 != (-2)) = true := bne_iff_ne.mpr c22;replace H := Option.bind_eq_some_iff.mp H;obtain ⟨t407,A350,H⟩ := H;replace H : (if t407 = true then ((sym_in.f a0_4 0 4096).bind fun t408 => (if t408 = true then ((sym_in.f a0_5 0 4096).bind fun t409 => (some t409)) else (some false))) else (some false)) = some r := H;have A35 := am0 A350;clear A350
   by_cases c36 : t407 = true
   ·subst c36
    have H1 : ((sym_in.f a0_4 0 4096).bind fun t408 => (if t408 = true then ((sym_in.f a0_5 0 4096).bind fun t409 => (some t409)) else (some false))) = some r := by rw [if_pos rfl] at H;exact H
    clear H;have H := H1;clear H1;replace H := Option.bind_eq_some_iff.mp H;obtain ⟨t408,A370,H⟩ := H;replace H : (if t408 = true then ((sym_in.f a0_5 0 4096).bind fun t409 => (some t409)) else (some false)) = some r := H;have A37 := am0 A370;clear A370
    by_cases c38 : t408 = true
    ·subst c38
     have H1 : ((sym_in.f a0_5 0 4096).bind fun t409 => (some t409)) = some r := by rw [if_pos rfl] at H;exact H
     clear H;have H := H1;clear H1;replace H := Option.bind_eq_some_iff.mp H;obtain ⟨t409,A390,H⟩ := H;replace H : (some t409) = some r := H;have A39 := am0 A390;clear A390;obtain rfl := Option.some.inj H;have hcz40_0 : wc.cell? ⟨gb403,0,none⟩ = some (.string a0_0) := (blk_cell BK403.out 0).trans rfl;have hcz40_1 : wc.cell? ⟨gb403,1,none⟩ = some (.int .u8 a0_1) := (blk_cell BK403.out 1).trans rfl;have hcz40_2 : wc.cell? ⟨gb403,2,none⟩ = some (.bool a0_2) := (blk_cell BK403.out 2).trans rfl;have hcz40_3 : wc.cell? ⟨gb403,3,none⟩ = some (.int .i64 a0_3) := (blk_cell BK403.out 3).trans rfl;have hcz40_4 : wc.cell? ⟨gb403,4,none⟩ = some (.int .i64 a0_4) := (blk_cell BK403.out 4).trans rfl;have hcz40_5 : wc.cell? ⟨gb403,5,none⟩ = some (.int .i64 a0_5) := (blk_cell BK403.out 5).trans rfl;have hfz40_0 := blk_frozen BK403.out 0;have hfz40_1 := blk_frozen BK403.out 1;have hfz40_2 := blk_frozen BK403.out 2;have hfz40_3 := blk_frozen BK403.out 3;have hfz40_4 := blk_frozen BK403.out 4;have hfz40_5 := blk_frozen BK403.out 5;go_wp2_with (first | ((with_reducible refine gate_callee (f := 60) rfl ?_);refine goesL_ (some 70) rfl rfl Tryd.func60 (by kernel_rfl) rfl #[.int .i64 a0_3, .int .i64 1, .int .i64 a1] rfl (by (try simp only [List.map_toArray,List.map_cons,List.map_nil]);first | done | rfl | (simp only [List.length_drop,List.length_take];rfl)) ?_;(with_reducible refine (sym_in.calls a0_3 1 a1 true _ A35.out).mono ?_);rintro e w' ⟨rfl,⟨nd,rfl⟩⟩;refine ⟨_,rfl, ?_⟩) | (go_at_call 60;(with_reducible refine (sym_in.calls a0_4 0 4096 true _ A37.out).mono ?_);rintro e w' ⟨rfl,⟨nd,rfl⟩⟩) | (go_at_call 60;(with_reducible refine (sym_in.calls a0_5 0 4096 t409 _ A39.out).mono ?_);rintro e w' ⟨rfl,⟨nd,rfl⟩⟩))
     go_ret
     exact ⟨by first | rfl | (simp [errW_none,errW_some] <;> rfl) | (simp [*,errW_none,errW_some] <;> rfl),by repeat (first | (with_reducible first | exact HB.out | apply below_alloc | apply pw_below_drewN | apply below_drew1 | refine below_set ?_ GE403.out) | exact HB.out)⟩
    replace c38 := Bool.eq_false_iff.mpr c38;subst c38;have H1 : (some false) = some r := by rw [if_neg (show ¬ (false = true) by decide)] at H;exact H
    clear H;have H := H1;clear H1;obtain rfl := Option.some.inj H;have hcz41_0 : wc.cell? ⟨gb403,0,none⟩ = some (.string a0_0) := (blk_cell BK403.out 0).trans rfl;have hcz41_1 : wc.cell? ⟨gb403,1,none⟩ = some (.int .u8 a0_1) := (blk_cell BK403.out 1).trans rfl;have hcz41_2 : wc.cell? ⟨gb403,2,none⟩ = some (.bool a0_2) := (blk_cell BK403.out 2).trans rfl;have hcz41_3 : wc.cell? ⟨gb403,3,none⟩ = some (.int .i64 a0_3) := (blk_cell BK403.out 3).trans rfl;have hcz41_4 : wc.cell? ⟨gb403,4,none⟩ = some (.int .i64 a0_4) := (blk_cell BK403.out 4).trans rfl;have hcz41_5 : wc.cell? ⟨gb403,5,none⟩ = some (.int .i64 a0_5) := (blk_cell BK403.out 5).trans rfl;have hfz41_0 := blk_frozen BK403.out 0;have hfz41_1 := blk_frozen BK403.out 1;have hfz41_2 := blk_frozen BK403.out 2;have hfz41_3 := blk_frozen BK403.out 3;have hfz41_4 := blk_frozen BK403.out 4;have hfz41_5 := blk_frozen BK403.out 5;go_wp2_with (first | ((with_reducible refine gate_callee (f := 60) rfl ?_);refine goesL_ (some 70) rfl rfl Tryd.func60 (by kernel_rfl) rfl #[.int .i64 a0_3, .int .i64 1, .int .i64 a1] rfl (by (try simp only [List.map_toArray,List.map_cons,List.map_nil]);first | done | rfl | (simp only [List.length_drop,List.length_take];rfl)) ?_;(with_reducible refine (sym_in.calls a0_3 1 a1 true _ A35.out).mono ?_);rintro e w' ⟨rfl,⟨nd,rfl⟩⟩;refine ⟨_,rfl, ?_⟩) | (go_at_call 60;(with_reducible refine (sym_in.calls a0_4 0 4096 false _ A37.out).mono ?_);rintro e w' ⟨rfl,⟨nd,rfl⟩⟩))
    go_ret
    exact ⟨by first | rfl | (simp [errW_none,errW_some] <;> rfl) | (simp [*,errW_none,errW_some] <;> rfl),by repeat (first | (with_reducible first | exact HB.out | apply below_alloc | apply pw_below_drewN | apply below_drew1 | refine below_set ?_ GE403.out) | exact HB.out)⟩
   replace c36 := Bool.eq_false_iff.mpr c36;subst c36;have H1 : (some false) = some r := by rw [if_neg (show ¬ (false = true) by decide)] at H;exact H
   clear H;have H := H1;clear H1;obtain rfl := Option.some.inj H;have hcz42_0 : wc.cell? ⟨gb403,0,none⟩ = some (.string a0_0) := (blk_cell BK403.out 0).trans rfl;have hcz42_1 : wc.cell? ⟨gb403,1,none⟩ = some (.int .u8 a0_1) := (blk_cell BK403.out 1).trans rfl;have hcz42_2 : wc.cell? ⟨gb403,2,none⟩ = some (.bool a0_2) := (blk_cell BK403.out 2).trans rfl;have hcz42_3 : wc.cell? ⟨gb403,3,none⟩ = some (.int .i64 a0_3) := (blk_cell BK403.out 3).trans rfl;have hcz42_4 : wc.cell? ⟨gb403,4,none⟩ = some (.int .i64 a0_4) := (blk_cell BK403.out 4).trans rfl;have hcz42_5 : wc.cell? ⟨gb403,5,none⟩ = some (.int .i64 a0_5) := (blk_cell BK403.out 5).trans rfl;have hfz42_0 := blk_frozen BK403.out 0;have hfz42_1 := blk_frozen BK403.out 1;have hfz42_2 := blk_frozen BK403.out 2;have hfz42_3 := blk_frozen BK403.out 3;have hfz42_4 := blk_frozen BK403.out 4;have hfz42_5 := blk_frozen BK403.out 5;go_wp2_with (first | ((with_reducible refine gate_callee (f := 60) rfl ?_);refine goesL_ (some 70) rfl rfl Tryd.func60 (by kernel_rfl) rfl #[.int .i64 a0_3, .int .i64 1, .int .i64 a1] rfl (by (try simp only [List.map_toArray,List.map_cons,List.map_nil]);first | done | rfl | (simp only [List.length_drop,List.length_take];rfl)) ?_;(with_reducible refine (sym_in.calls a0_3 1 a1 false _ A35.out).mono ?_);rintro e w' ⟨rfl,⟨nd,rfl⟩⟩;refine ⟨_,rfl, ?_⟩))
   go_ret
   exact ⟨by first | rfl | (simp [errW_none,errW_some] <;> rfl) | (simp [*,errW_none,errW_some] <;> rfl),by repeat (first | (with_reducible first | exact HB.out | apply below_alloc | apply pw_below_drewN | apply below_drew1 | refine below_set ?_ GE403.out) | exact HB.out)⟩
def sym_Check.f (k : Nat) (a0_0 : ByteArray) (a0_1 : Int) (a0_2 : Bool) (a0_3 : Int) (a0_4 : Int) (a0_5 : Int) (a1 : Int) : Option (Int) := (sym_in.f a1 0 16).bind fun t411 => (if t411 = true then ((sym_named.f k a0_0).bind fun t412 => (if t412 = true then ((sym_stands.f k a0_0 a0_1 a0_2 a0_3 a0_4 a0_5 a1).bind fun t413 => (if t413 = true then (some 0) else (some 8))) else (some 8))) else (some 2))
theorem sym_Check.mono : ∀ a0 a1 a2 a3 a4 a5 a6 k,LeO (sym_Check.f k a0 a1 a2 a3 a4 a5 a6) (sym_Check.f (k + 1) a0 a1 a2 a3 a4 a5 a6) := by
 intro a0 a1 a2 a3 a4 a5 a6 k;unfold sym_Check.f
 repeat' first
   | (with_reducible exact sym_named.mono _ _)
   | (with_reducible exact sym_stands.mono _ _ _ _ _ _ _ _)
   | (with_reducible exact LeO.refl _)
   | (with_reducible exact LeO.none _)
   | (with_reducible refine LeO.ite ?_ ?_)
   | (with_reducible refine LeO.bind ?_ (fun _ => ?_))
   | exact sym_named.mono _ _
   | exact sym_stands.mono _ _ _ _ _ _ _ _
   | exact LeO.none _
   | refine LeO.ite ?_ ?_
   | refine LeO.bind ?_ (fun _ => ?_)
set_option maxHeartbeats 8000000 in
set_option maxRecDepth 100000 in
theorem sym_Check.calls (k : Nat) (a0_0 : ByteArray) (a0_1 : Int) (a0_2 : Bool) (a0_3 : Int) (a0_4 : Int) (a0_5 : Int) (a1 : Int) (r : Int) (w : World) (h : sym_Check.f k a0_0 a0_1 a0_2 a0_3 a0_4 a0_5 a1 = some r) :
  Calls Tryd.prog 44 #[.agg #[.string a0_0, .int .u8 a0_1, .bool a0_2, .int .i64 a0_3, .int .i64 a0_4, .int .i64 a0_5], .int .i64 a1] w fun e w' => e = .returned (.int .i64 r) ∧ Below w.heap.size w w' := by
 have hu40 := Tryd.underlying40;have HB := am0 (Below.refl w.heap.size w);have H : ((sym_in.f a1 0 16).bind fun t411 => (if t411 = true then ((sym_named.f k a0_0).bind fun t412 => (if t412 = true then ((sym_stands.f k a0_0 a0_1 a0_2 a0_3 a0_4 a0_5 a1).bind fun t413 => (if t413 = true then (some 0) else (some 8))) else (some 8))) else (some 2))) = some r := h;clear h;replace H := Option.bind_eq_some_iff.mp H;obtain ⟨t411,A30,H⟩ := H;replace H : (if t411 = true then ((sym_named.f k a0_0).bind fun t412 => (if t412 = true then ((sym_stands.f k a0_0 a0_1 a0_2 a0_3 a0_4 a0_5 a1).bind fun t413 => (if t413 = true then (some 0) else (some 8))) else (some 8))) else (some 2)) = some r := H;have A3 := am0 A30;clear A30
 by_cases c4 : t411 = true
 ·subst c4
  have H1 : ((sym_named.f k a0_0).bind fun t412 => (if t412 = true then ((sym_stands.f k a0_0 a0_1 a0_2 a0_3 a0_4 a0_5 a1).bind fun t413 => (if t413 = true then (some 0) else (some 8))) else (some 8))) = some r := by rw [if_pos rfl] at H;exact H
  clear H;have H := H1;clear H1;replace H := Option.bind_eq_some_iff.mp H;obtain ⟨t412,A50,H⟩ := H;replace H : (if t412 = true then ((sym_stands.f k a0_0 a0_1 a0_2 a0_3 a0_4 a0_5 a1).bind fun t413 => (if t413 = true then (some 0) else (some 8))) else (some 8)) = some r := H;have A5 := am0 A50;clear A50
  by_cases c6 : t412 = true
  ·subst c6
   have H1 : ((sym_stands.f k a0_0 a0_1 a0_2 a0_3 a0_4 a0_5 a1).bind fun t413 => (if t413 = true then (some 0) else (some 8))) = some r := by rw [if_pos rfl] at H;exact H
   clear H;have H := H1;clear H1;replace H := Option.bind_eq_some_iff.mp H;obtain ⟨t413,A70,H⟩ := H;replace H : (if t413 = true then (some 0) else (some 8)) = some r := H;have A7 := am0 A70;clear A70
   by_cases c8 : t413 = true
   ·subst c8
    have H1 : (some 0) = some r := by rw [if_pos rfl] at H;exact H
    clear H;have H := H1;clear H1;obtain rfl := Option.some.inj H;go_enter Tryd.func44,Tryd.ntmps44
    go_wp2_with (first | ((with_reducible refine gate_dst (N := 2) rfl ?_);refine box_event ?hg (N := 2) ?hd (cs := #[.string a0_0, .int .u8 a0_1, .bool a0_2, .int .i64 a0_3, .int .i64 a0_4, .int .i64 a0_5]) (t := 40) ?hr ?_;(case hd => rfl);(case hg => rfl);(case hr => first | (go_simp;done) | (go_simp;rfl));intro gb410 hg w9 hbox hb;have n0_ := am0 (below_step (by repeat (first | (with_reducible first | exact HB.out | apply below_alloc | apply pw_below_drewN | apply below_drew1) | exact HB.out)) hb);have n1_ := am0 (hbox);have n2_ := am0 ((by rw [hg];exact (below_size (by repeat (first | (with_reducible first | exact HB.out | apply below_alloc | apply pw_below_drewN | apply below_drew1) | exact HB.out))) : w.heap.size ≤ gb410));have n3_ := am0 ((by rw [hg];exact (below_size (by repeat (first | (with_reducible first | exact HB.out | apply below_alloc | apply pw_below_drewN | apply below_drew1) | exact HB.out))) : w.heap.size ≤ gb410));clear HB;have HB := n0_;have BK410 := n1_;have GW410 := n2_;have GE410 := n3_;clear n0_ n1_ n2_ n3_;clear hb hbox hg) | ((with_reducible refine gate_callee (f := 60) rfl ?_);refine goesL_ (some 6) rfl rfl Tryd.func60 (by kernel_rfl) rfl #[.int .i64 a1, .int .i64 0, .int .i64 16] rfl (by (try simp only [List.map_toArray,List.map_cons,List.map_nil]);first | done | rfl | (simp only [List.length_drop,List.length_take];rfl)) ?_;(with_reducible refine (sym_in.calls a1 0 16 true _ A3.out).mono ?_);rintro e w' ⟨rfl,⟨nd,rfl⟩⟩;refine ⟨_,rfl, ?_⟩;have hcz10_0 : w9.cell? ⟨gb410,0,none⟩ = some (.string a0_0) := (blk_cell BK410.out 0).trans rfl;have hcz10_1 : w9.cell? ⟨gb410,1,none⟩ = some (.int .u8 a0_1) := (blk_cell BK410.out 1).trans rfl;have hcz10_2 : w9.cell? ⟨gb410,2,none⟩ = some (.bool a0_2) := (blk_cell BK410.out 2).trans rfl;have hcz10_3 : w9.cell? ⟨gb410,3,none⟩ = some (.int .i64 a0_3) := (blk_cell BK410.out 3).trans rfl;have hcz10_4 : w9.cell? ⟨gb410,4,none⟩ = some (.int .i64 a0_4) := (blk_cell BK410.out 4).trans rfl;have hcz10_5 : w9.cell? ⟨gb410,5,none⟩ = some (.int .i64 a0_5) := (blk_cell BK410.out 5).trans rfl;have hfz10_0 := blk_frozen BK410.out 0;have hfz10_1 := blk_frozen BK410.out 1;have hfz10_2 := blk_frozen BK410.out 2;have hfz10_3 := blk_frozen BK410.out 3;have hfz10_4 := blk_frozen BK410.out 4;have hfz10_5 := blk_frozen BK410.out 5) | ((with_reducible refine gate_callee (f := 61) rfl ?_);refine goesL_ (some 10) rfl rfl Tryd.func61 (by kernel_rfl) rfl #[.string a0_0] rfl (by (try simp only [List.map_toArray,List.map_cons,List.map_nil]);first | done | rfl | (simp only [List.length_drop,List.length_take];rfl)) ?_;(with_reducible refine (sym_named.calls k a0_0 true _ A5.out).mono ?_);rintro e w' ⟨rfl,⟨nd,rfl⟩⟩;refine ⟨_,rfl, ?_⟩) | (go_at_call 62;(with_reducible refine (sym_stands.calls k a0_0 a0_1 a0_2 a0_3 a0_4 a0_5 a1 true _ A7.out).mono ?_);rintro e w11 ⟨rfl,hb⟩;have n0_ := am0 (blk_below (g := gb410) (o := .cells #[.string a0_0, .int .u8 a0_1, .bool a0_2, .int .i64 a0_3, .int .i64 a0_4, .int .i64 a0_5] 40 (0,0)) (by (with_reducible repeat (first | refine blk_drewN ?_ _ | refine blk_drew ?_ | refine blk_alloc ?_ _));exact BK410.out) hb);have n1_ := am0 (below_step (by repeat (first | (with_reducible first | exact HB.out | apply below_alloc | apply pw_below_drewN | apply below_drew1 | refine below_set ?_ GE410.out) | exact HB.out)) hb);clear BK410;clear HB;have BK410 := n0_;have HB := n1_;clear n0_ n1_;(try clear hb);(try clear hb2);(try clear hk);(try clear hi)))
    go_ret
    exact ⟨by first | rfl | (simp [errW_none,errW_some] <;> rfl) | (simp [*,errW_none,errW_some] <;> rfl),by repeat (first | (with_reducible first | exact HB.out | apply below_alloc | apply pw_below_drewN | apply below_drew1 | refine below_set ?_ GE410.out) | exact HB.out)⟩
   replace c8 := Bool.eq_false_iff.mpr c8;subst c8;have H1 : (some 8) = some r := by rw [if_neg (show ¬ (false = true) by decide)] at H;exact H
   clear H;have H := H1;clear H1;obtain rfl := Option.some.inj H;go_enter Tryd.func44,Tryd.ntmps44
   go_wp2_with (first | ((with_reducible refine gate_dst (N := 2) rfl ?_);refine box_event ?hg (N := 2) ?hd (cs := #[.string a0_0, .int .u8 a0_1, .bool a0_2, .int .i64 a0_3, .int .i64 a0_4, .int .i64 a0_5]) (t := 40) ?hr ?_;(case hd => rfl);(case hg => rfl);(case hr => first | (go_simp;done) | (go_simp;rfl));intro gb410 hg w12 hbox hb;have n0_ := am0 (below_step (by repeat (first | (with_reducible first | exact HB.out | apply below_alloc | apply pw_below_drewN | apply below_drew1) | exact HB.out)) hb);have n1_ := am0 (hbox);have n2_ := am0 ((by rw [hg];exact (below_size (by repeat (first | (with_reducible first | exact HB.out | apply below_alloc | apply pw_below_drewN | apply below_drew1) | exact HB.out))) : w.heap.size ≤ gb410));have n3_ := am0 ((by rw [hg];exact (below_size (by repeat (first | (with_reducible first | exact HB.out | apply below_alloc | apply pw_below_drewN | apply below_drew1) | exact HB.out))) : w.heap.size ≤ gb410));clear HB;have HB := n0_;have BK410 := n1_;have GW410 := n2_;have GE410 := n3_;clear n0_ n1_ n2_ n3_;clear hb hbox hg) | ((with_reducible refine gate_callee (f := 60) rfl ?_);refine goesL_ (some 6) rfl rfl Tryd.func60 (by kernel_rfl) rfl #[.int .i64 a1, .int .i64 0, .int .i64 16] rfl (by (try simp only [List.map_toArray,List.map_cons,List.map_nil]);first | done | rfl | (simp only [List.length_drop,List.length_take];rfl)) ?_;(with_reducible refine (sym_in.calls a1 0 16 true _ A3.out).mono ?_);rintro e w' ⟨rfl,⟨nd,rfl⟩⟩;refine ⟨_,rfl, ?_⟩;have hcz13_0 : w12.cell? ⟨gb410,0,none⟩ = some (.string a0_0) := (blk_cell BK410.out 0).trans rfl;have hcz13_1 : w12.cell? ⟨gb410,1,none⟩ = some (.int .u8 a0_1) := (blk_cell BK410.out 1).trans rfl;have hcz13_2 : w12.cell? ⟨gb410,2,none⟩ = some (.bool a0_2) := (blk_cell BK410.out 2).trans rfl;have hcz13_3 : w12.cell? ⟨gb410,3,none⟩ = some (.int .i64 a0_3) := (blk_cell BK410.out 3).trans rfl;have hcz13_4 : w12.cell? ⟨gb410,4,none⟩ = some (.int .i64 a0_4) := (blk_cell BK410.out 4).trans rfl;have hcz13_5 : w12.cell? ⟨gb410,5,none⟩ = some (.int .i64 a0_5) := (blk_cell BK410.out 5).trans rfl;have hfz13_0 := blk_frozen BK410.out 0;have hfz13_1 := blk_frozen BK410.out 1;have hfz13_2 := blk_frozen BK410.out 2;have hfz13_3 := blk_frozen BK410.out 3;have hfz13_4 := blk_frozen BK410.out 4;have hfz13_5 := blk_frozen BK410.out 5) | ((with_reducible refine gate_callee (f := 61) rfl ?_);refine goesL_ (some 10) rfl rfl Tryd.func61 (by kernel_rfl) rfl #[.string a0_0] rfl (by (try simp only [List.map_toArray,List.map_cons,List.map_nil]);first | done | rfl | (simp only [List.length_drop,List.length_take];rfl)) ?_;(with_reducible refine (sym_named.calls k a0_0 true _ A5.out).mono ?_);rintro e w' ⟨rfl,⟨nd,rfl⟩⟩;refine ⟨_,rfl, ?_⟩) | (go_at_call 62;(with_reducible refine (sym_stands.calls k a0_0 a0_1 a0_2 a0_3 a0_4 a0_5 a1 false _ A7.out).mono ?_);rintro e w14 ⟨rfl,hb⟩;have n0_ := am0 (blk_below (g := gb410) (o := .cells #[.string a0_0, .int .u8 a0_1, .bool a0_2, .int .i64 a0_3, .int .i64 a0_4, .int .i64 a0_5] 40 (0,0)) (by (with_reducible repeat (first | refine blk_drewN ?_ _ | refine blk_drew ?_ | refine blk_alloc ?_ _));exact BK410.out) hb);have n1_ := am0 (below_step (by repeat (first | (with_reducible first | exact HB.out | apply below_alloc | apply pw_below_drewN | apply below_drew1 | refine below_set ?_ GE410.out) | exact HB.out)) hb);clear BK410;clear HB;have BK410 := n0_;have HB := n1_;clear n0_ n1_;(try clear hb);(try clear hb2);(try clear hk);(try clear hi)))
   go_ret
   exact ⟨by first | rfl | (simp [errW_none,errW_some] <;> rfl) | (simp [*,errW_none,errW_some] <;> rfl),by repeat (first | (with_reducible first | exact HB.out | apply below_alloc | apply pw_below_drewN | apply below_drew1 | refine below_set ?_ GE410.out) | exact HB.out)⟩
  replace c6 := Bool.eq_false_iff.mpr c6;subst c6;have H1 : (some 8) = some r := by rw [if_neg (show ¬ (false = true) by decide)] at H;exact H
  clear H;have H := H1;clear H1;obtain rfl := Option.some.inj H;go_enter Tryd.func44,Tryd.ntmps44
  go_wp2_with (first | ((with_reducible refine gate_dst (N := 2) rfl ?_);refine box_event ?hg (N := 2) ?hd (cs := #[.string a0_0, .int .u8 a0_1, .bool a0_2, .int .i64 a0_3, .int .i64 a0_4, .int .i64 a0_5]) (t := 40) ?hr ?_;(case hd => rfl);(case hg => rfl);(case hr => first | (go_simp;done) | (go_simp;rfl));intro gb410 hg w15 hbox hb;have n0_ := am0 (below_step (by repeat (first | (with_reducible first | exact HB.out | apply below_alloc | apply pw_below_drewN | apply below_drew1) | exact HB.out)) hb);have n1_ := am0 (hbox);have n2_ := am0 ((by rw [hg];exact (below_size (by repeat (first | (with_reducible first | exact HB.out | apply below_alloc | apply pw_below_drewN | apply below_drew1) | exact HB.out))) : w.heap.size ≤ gb410));have n3_ := am0 ((by rw [hg];exact (below_size (by repeat (first | (with_reducible first | exact HB.out | apply below_alloc | apply pw_below_drewN | apply below_drew1) | exact HB.out))) : w.heap.size ≤ gb410));clear HB;have HB := n0_;have BK410 := n1_;have GW410 := n2_;have GE410 := n3_;clear n0_ n1_ n2_ n3_;clear hb hbox hg) | ((with_reducible refine gate_callee (f := 60) rfl ?_);refine goesL_ (some 6) rfl rfl Tryd.func60 (by kernel_rfl) rfl #[.int .i64 a1, .int .i64 0, .int .i64 16] rfl (by (try simp only [List.map_toArray,List.map_cons,List.map_nil]);first | done | rfl | (simp only [List.length_drop,List.length_take];rfl)) ?_;(with_reducible refine (sym_in.calls a1 0 16 true _ A3.out).mono ?_);rintro e w' ⟨rfl,⟨nd,rfl⟩⟩;refine ⟨_,rfl, ?_⟩;have hcz16_0 : w15.cell? ⟨gb410,0,none⟩ = some (.string a0_0) := (blk_cell BK410.out 0).trans rfl;have hcz16_1 : w15.cell? ⟨gb410,1,none⟩ = some (.int .u8 a0_1) := (blk_cell BK410.out 1).trans rfl;have hcz16_2 : w15.cell? ⟨gb410,2,none⟩ = some (.bool a0_2) := (blk_cell BK410.out 2).trans rfl;have hcz16_3 : w15.cell? ⟨gb410,3,none⟩ = some (.int .i64 a0_3) := (blk_cell BK410.out 3).trans rfl;have hcz16_4 : w15.cell? ⟨gb410,4,none⟩ = some (.int .i64 a0_4) := (blk_cell BK410.out 4).trans rfl;have hcz16_5 : w15.cell? ⟨gb410,5,none⟩ = some (.int .i64 a0_5) := (blk_cell BK410.out 5).trans rfl;have hfz16_0 := blk_frozen BK410.out 0;have hfz16_1 := blk_frozen BK410.out 1;have hfz16_2 := blk_frozen BK410.out 2;have hfz16_3 := blk_frozen BK410.out 3;have hfz16_4 := blk_frozen BK410.out 4;have hfz16_5 := blk_frozen BK410.out 5) | ((with_reducible refine gate_callee (f := 61) rfl ?_);refine goesL_ (some 10) rfl rfl Tryd.func61 (by kernel_rfl) rfl #[.string a0_0] rfl (by (try simp only [List.map_toArray,List.map_cons,List.map_nil]);first | done | rfl | (simp only [List.length_drop,List.length_take];rfl)) ?_;(with_reducible refine (sym_named.calls k a0_0 false _ A5.out).mono ?_);rintro e w' ⟨rfl,⟨nd,rfl⟩⟩;refine ⟨_,rfl, ?_⟩))
  go_ret
  exact ⟨by first | rfl | (simp [errW_none,errW_some] <;> rfl) | (simp [*,errW_none,errW_some] <;> rfl),by repeat (first | (with_reducible first | exact HB.out | apply below_alloc | apply pw_below_drewN | apply below_drew1 | refine below_set ?_ GE410.out) | exact HB.out)⟩
 replace c4 := Bool.eq_false_iff.mpr c4;subst c4;have H1 : (some 2) = some r := by rw [if_neg (show ¬ (false = true) by decide)] at H;exact H
 clear H;have H := H1;clear H1;obtain rfl := Option.some.inj H;go_enter Tryd.func44,Tryd.ntmps44
 go_wp2_with (first | ((with_reducible refine gate_dst (N := 2) rfl ?_);refine box_event ?hg (N := 2) ?hd (cs := #[.string a0_0, .int .u8 a0_1, .bool a0_2, .int .i64 a0_3, .int .i64 a0_4, .int .i64 a0_5]) (t := 40) ?hr ?_;(case hd => rfl);(case hg => rfl);(case hr => first | (go_simp;done) | (go_simp;rfl));intro gb410 hg w17 hbox hb;have n0_ := am0 (below_step (by repeat (first | (with_reducible first | exact HB.out | apply below_alloc | apply pw_below_drewN | apply below_drew1) | exact HB.out)) hb);have n1_ := am0 (hbox);have n2_ := am0 ((by rw [hg];exact (below_size (by repeat (first | (with_reducible first | exact HB.out | apply below_alloc | apply pw_below_drewN | apply below_drew1) | exact HB.out))) : w.heap.size ≤ gb410));have n3_ := am0 ((by rw [hg];exact (below_size (by repeat (first | (with_reducible first | exact HB.out | apply below_alloc | apply pw_below_drewN | apply below_drew1) | exact HB.out))) : w.heap.size ≤ gb410));clear HB;have HB := n0_;have BK410 := n1_;have GW410 := n2_;have GE410 := n3_;clear n0_ n1_ n2_ n3_;clear hb hbox hg) | ((with_reducible refine gate_callee (f := 60) rfl ?_);refine goesL_ (some 6) rfl rfl Tryd.func60 (by kernel_rfl) rfl #[.int .i64 a1, .int .i64 0, .int .i64 16] rfl (by (try simp only [List.map_toArray,List.map_cons,List.map_nil]);first | done | rfl | (simp only [List.length_drop,List.length_take];rfl)) ?_;(with_reducible refine (sym_in.calls a1 0 16 false _ A3.out).mono ?_);rintro e w' ⟨rfl,⟨nd,rfl⟩⟩;refine ⟨_,rfl, ?_⟩))
 go_ret
 exact ⟨by first | rfl | (simp [errW_none,errW_some] <;> rfl) | (simp [*,errW_none,errW_some] <;> rfl),by repeat (first | (with_reducible first | exact HB.out | apply below_alloc | apply pw_below_drewN | apply below_drew1 | refine below_set ?_ GE410.out) | exact HB.out)⟩
mutual
def rela_Field.j0 : Nat → Int → Bool → Option (Int × Int)
 | 0,_,_ => none
 | k + 1,x4,x5 => if x5 = true then (some (0,0)) else (if x4 = 33 then (rela_Field.j1 k x4 (x4 == 33)) else (rela_Field.j1 k x4 (x4 == 37)))
def rela_Field.j1 : Nat → Int → Bool → Option (Int × Int)
 | 0,_,_ => none
 | k + 1,x4,x8 => if x8 = true then (some (1,0)) else (if x4 = 34 then (rela_Field.j2 k x4 (x4 == 34)) else (if x4 = 38 then (rela_Field.j2 k x4 (x4 == 38)) else (if x4 = 44 then (rela_Field.j2 k x4 (x4 == 44)) else (rela_Field.j2 k x4 (x4 == 45)))))
def rela_Field.j2 : Nat → Int → Bool → Option (Int × Int)
 | 0,_,_ => none
 | k + 1,x4,x11 => if x11 = true then (some (2,0)) else (if x4 = 2 then (rela_Field.j3 k x4 (x4 == 2)) else (if x4 = 36 then (rela_Field.j3 k x4 (x4 == 36)) else (if x4 = 40 then (rela_Field.j3 k x4 (x4 == 40)) else (rela_Field.j3 k x4 (x4 == 18)))))
def rela_Field.j3 : Nat → Int → Bool → Option (Int × Int)
 | 0,_,_ => none
 | k + 1,x4,x16 => if x16 = true then (some (8,0)) else (if x4 = 1 then (rela_Field.j4 k (x4 == 1)) else (if x4 = 16 then (rela_Field.j4 k (x4 == 16)) else (if x4 = 17 then (rela_Field.j4 k (x4 == 17)) else (if x4 = 23 then (rela_Field.j4 k (x4 == 23)) else (if x4 = 24 then (rela_Field.j4 k (x4 == 24)) else (if x4 = 25 then (rela_Field.j4 k (x4 == 25)) else (if x4 = 26 then (rela_Field.j4 k (x4 == 26)) else (if x4 = 27 then (rela_Field.j4 k (x4 == 27)) else (if x4 = 28 then (rela_Field.j4 k (x4 == 28)) else (if x4 = 35 then (rela_Field.j4 k (x4 == 35)) else (rela_Field.j4 k (x4 == 39))))))))))))
def rela_Field.j4 : Nat → Bool → Option (Int × Int)
 | 0,_ => none
 | k + 1,x21 => if x21 = true then (some (4,0)) else (some (0,2))
end
def rela_Field.f (k : Nat) (a0 : Int) : Option (Int × Int) := if a0 = 43 then (rela_Field.j0 k a0 (a0 == 43)) else (rela_Field.j0 k a0 (a0 == 51))
theorem rela_Field.mono_l : ∀ k,(∀ y0 y1,LeO (rela_Field.j0 k y0 y1) (rela_Field.j0 (k + 1) y0 y1)) ∧ (∀ y0 y1,LeO (rela_Field.j1 k y0 y1) (rela_Field.j1 (k + 1) y0 y1)) ∧ (∀ y0 y1,LeO (rela_Field.j2 k y0 y1) (rela_Field.j2 (k + 1) y0 y1)) ∧ (∀ y0 y1,LeO (rela_Field.j3 k y0 y1) (rela_Field.j3 (k + 1) y0 y1)) ∧ (∀ y0,LeO (rela_Field.j4 k y0) (rela_Field.j4 (k + 1) y0))
 | 0 => ⟨fun _ _ r h => by simp [rela_Field.j0] at h,fun _ _ r h => by simp [rela_Field.j1] at h,fun _ _ r h => by simp [rela_Field.j2] at h,fun _ _ r h => by simp [rela_Field.j3] at h,fun _ r h => by simp [rela_Field.j4] at h⟩
 | k + 1 => by
  obtain ⟨ih0,ih1,ih2,ih3,ih4⟩ := rela_Field.mono_l k;refine ⟨?_, ?_, ?_, ?_, ?_⟩
  ·intro y0 y1
   unfold rela_Field.j0;repeat' first
   | (with_reducible exact ih0 _ _)
   | (with_reducible exact ih1 _ _)
   | (with_reducible exact ih2 _ _)
   | (with_reducible exact ih3 _ _)
   | (with_reducible exact ih4 _)
   | (with_reducible exact LeO.refl _)
   | (with_reducible exact LeO.none _)
   | (with_reducible refine LeO.ite ?_ ?_)
   | (with_reducible refine LeO.bind ?_ (fun _ => ?_))
   | exact ih0 _ _
   | exact ih1 _ _
   | exact ih2 _ _
   | exact ih3 _ _
   | exact ih4 _
   | exact LeO.none _
   | refine LeO.ite ?_ ?_
   | refine LeO.bind ?_ (fun _ => ?_)
  ·intro y0 y1
   unfold rela_Field.j1;repeat' first
   | (with_reducible exact ih0 _ _)
   | (with_reducible exact ih1 _ _)
   | (with_reducible exact ih2 _ _)
   | (with_reducible exact ih3 _ _)
   | (with_reducible exact ih4 _)
   | (with_reducible exact LeO.refl _)
   | (with_reducible exact LeO.none _)
   | (with_reducible refine LeO.ite ?_ ?_)
   | (with_reducible refine LeO.bind ?_ (fun _ => ?_))
   | exact ih0 _ _
   | exact ih1 _ _
   | exact ih2 _ _
   | exact ih3 _ _
   | exact ih4 _
   | exact LeO.none _
   | refine LeO.ite ?_ ?_
   | refine LeO.bind ?_ (fun _ => ?_)
  ·intro y0 y1
   unfold rela_Field.j2;repeat' first
   | (with_reducible exact ih0 _ _)
   | (with_reducible exact ih1 _ _)
   | (with_reducible exact ih2 _ _)
   | (with_reducible exact ih3 _ _)
   | (with_reducible exact ih4 _)
   | (with_reducible exact LeO.refl _)
   | (with_reducible exact LeO.none _)
   | (with_reducible refine LeO.ite ?_ ?_)
   | (with_reducible refine LeO.bind ?_ (fun _ => ?_))
   | exact ih0 _ _
   | exact ih1 _ _
   | exact ih2 _ _
   | exact ih3 _ _
   | exact ih4 _
   | exact LeO.none _
   | refine LeO.ite ?_ ?_
   | refine LeO.bind ?_ (fun _ => ?_)
  ·intro y0 y1
   unfold rela_Field.j3;repeat' first
   | (with_reducible exact ih0 _ _)
   | (with_reducible exact ih1 _ _)
   | (with_reducible exact ih2 _ _)
   | (with_reducible exact ih3 _ _)
   | (with_reducible exact ih4 _)
   | (with_reducible exact LeO.refl _)
   | (with_reducible exact LeO.none _)
   | (with_reducible refine LeO.ite ?_ ?_)
   | (with_reducible refine LeO.bind ?_ (fun _ => ?_))
   | exact ih0 _ _
   | exact ih1 _ _
   | exact ih2 _ _
   | exact ih3 _ _
   | exact ih4 _
   | exact LeO.none _
   | refine LeO.ite ?_ ?_
   | refine LeO.bind ?_ (fun _ => ?_)
  intro y0;unfold rela_Field.j4;repeat' first
  | (with_reducible exact ih0 _ _)
  | (with_reducible exact ih1 _ _)
  | (with_reducible exact ih2 _ _)
  | (with_reducible exact ih3 _ _)
  | (with_reducible exact ih4 _)
  | (with_reducible exact LeO.refl _)
  | (with_reducible exact LeO.none _)
  | (with_reducible refine LeO.ite ?_ ?_)
  | (with_reducible refine LeO.bind ?_ (fun _ => ?_))
  | exact ih0 _ _
  | exact ih1 _ _
  | exact ih2 _ _
  | exact ih3 _ _
  | exact ih4 _
  | exact LeO.none _
  | refine LeO.ite ?_ ?_
  | refine LeO.bind ?_ (fun _ => ?_)
theorem rela_Field.mono : ∀ a0 k,LeO (rela_Field.f k a0) (rela_Field.f (k + 1) a0) := by
 intro a0 k;obtain ⟨ih0,ih1,ih2,ih3,ih4⟩ := rela_Field.mono_l k;unfold rela_Field.f
 repeat' first
   | (with_reducible exact ih0 _ _)
   | (with_reducible exact ih1 _ _)
   | (with_reducible exact ih2 _ _)
   | (with_reducible exact ih3 _ _)
   | (with_reducible exact ih4 _)
   | (with_reducible exact LeO.refl _)
   | (with_reducible exact LeO.none _)
   | (with_reducible refine LeO.ite ?_ ?_)
   | (with_reducible refine LeO.bind ?_ (fun _ => ?_))
   | exact ih0 _ _
   | exact ih1 _ _
   | exact ih2 _ _
   | exact ih3 _ _
   | exact ih4 _
   | exact LeO.none _
   | refine LeO.ite ?_ ?_
   | refine LeO.bind ?_ (fun _ => ?_)
set_option maxHeartbeats 8000000 in
set_option maxRecDepth 100000 in
theorem rela_Field.calls (k : Nat) (a0 : Int) (r1 : Int) (r2 : Int) (w : World) (h : rela_Field.f k a0 = some (r1,r2)) :
  Calls Tryd.prog 81 #[.int .u8 a0] w fun e w' => e = .returned (.tuple #[.int .i64 r1, .int .i64 r2]) ∧ Drawn0 w w' := by
 have H : (if a0 = 43 then (rela_Field.j0 k a0 (a0 == 43)) else (rela_Field.j0 k a0 (a0 == 51))) = some (r1,r2) := h;clear h;have HC2 := am0 H;clear H;go_enter Tryd.func81,Tryd.ntmps81
 go_upto_if 5 with (fail)
 go_cut [5] (fun v5 wc => ∃ (kq : Nat) (x5_1 : Bool),v5 = .bool x5_1 ∧ Aside0 (rela_Field.j0 kq a0 x5_1 = some (r1,r2)) ∧ Aside0 (kq ≤ k) ∧ Drawn0 w wc)
 case first =>
  have H := HC2.out;clear HC2
  by_cases c3 : a0 = 43
  ·rw [if_pos c3] at H
   have c3b0 : (a0 == 43) = true := beq_iff_eq.mpr c3;have c3b1 : (a0 != 43) = false := bne_eq_false_iff_eq.mpr c3;clear c3
   (first | rw [c3b0] | (simp only [i64_w,i32_w];rw [c3b0]) | skip)
   have H' := am0 H;clear H;go_wp2
   go_meet
   case rel => exact ⟨_,((a0 == 43)),(by first | rfl | (simp;done) | (simp [*];done)),H',⟨by first | omega | exact Nat.le_refl _⟩,by repeat (first | exact Drawn0.refl _ | apply Drawn0.step)⟩
  rw [if_neg c3] at H;have c3b0 : (a0 == 43) = false := beq_eq_false_iff_ne.mpr c3;have c3b1 : (a0 != 43) = true := bne_iff_ne.mpr c3
  (first | rw [c3b0] | (simp only [i64_w,i32_w];rw [c3b0]) | skip)
  have H' := am0 H;clear H;go_wp2
  go_meet
  case rel => exact ⟨_,((a0 == 51)),(by first | rfl | (simp;done) | (simp [*];done)),H',⟨by first | omega | exact Nat.le_refl _⟩,by repeat (first | exact Drawn0.refl _ | apply Drawn0.step)⟩
 case rest =>
  clear HC2;try clear p2
  try clear c3
  try clear c3b0
  try clear c3b1
  obtain ⟨kq,x5_1,rfl,HA,HJ1,⟨mc1,rfl⟩⟩ := hcut
  cases kq with
  | zero => exact absurd HA.out (by simp [rela_Field.j0])
  | succ kj1 =>
   have H := HA.out;clear HA;simp only [rela_Field.j0] at H
   by_cases c4 : x5_1 = true
   ·subst c4
    have H1 : (some (0,0)) = some (r1,r2) := by rw [if_pos rfl] at H;exact H
    clear H;have H := H1;clear H1;simp only [Option.some.injEq,Prod.mk.injEq] at H;obtain ⟨rfl,rfl⟩ := H;go_wp2
    go_ret2
    exact ⟨by first | rfl | (simp;done) | (simp [*];done),by repeat (first | exact Drawn0.refl _ | apply Drawn0.step)⟩
   replace c4 := Bool.eq_false_iff.mpr c4;subst c4;have H1 : (if a0 = 33 then (rela_Field.j1 kj1 a0 (a0 == 33)) else (rela_Field.j1 kj1 a0 (a0 == 37))) = some (r1,r2) := by rw [if_neg (show ¬ (false = true) by decide)] at H;exact H
   clear H;have H := H1;clear H1;have HC5 := am0 H;clear H;go_upto_if 8 with (fail)
   go_cut [8] (fun v8 wc => ∃ (kq : Nat) (x8_4 : Bool),v8 = .bool x8_4 ∧ Aside0 (rela_Field.j1 kq a0 x8_4 = some (r1,r2)) ∧ Aside0 (kq ≤ kj1) ∧ Drawn0 w wc)
   case first =>
    have H := HC5.out;clear HC5
    by_cases c6 : a0 = 33
    ·rw [if_pos c6] at H
     have c6b0 : (a0 == 33) = true := beq_iff_eq.mpr c6;have c6b1 : (a0 != 33) = false := bne_eq_false_iff_eq.mpr c6;clear c6
     (first | rw [c6b0] | (simp only [i64_w,i32_w];rw [c6b0]) | skip)
     have H' := am0 H;clear H;go_wp2
     go_meet
     case rel => exact ⟨_,((a0 == 33)),(by first | rfl | (simp;done) | (simp [*];done)),H',⟨by have := HJ1.out;first | omega | exact Nat.le_refl _⟩,by repeat (first | exact Drawn0.refl _ | apply Drawn0.step)⟩
    rw [if_neg c6] at H;have c6b0 : (a0 == 33) = false := beq_eq_false_iff_ne.mpr c6;have c6b1 : (a0 != 33) = true := bne_iff_ne.mpr c6
    (first | rw [c6b0] | (simp only [i64_w,i32_w];rw [c6b0]) | skip)
    have H' := am0 H;clear H;go_wp2
    go_meet
    case rel => exact ⟨_,((a0 == 37)),(by first | rfl | (simp;done) | (simp [*];done)),H',⟨by have := HJ1.out;first | omega | exact Nat.le_refl _⟩,by repeat (first | exact Drawn0.refl _ | apply Drawn0.step)⟩
   case rest =>
    clear HC5;try clear c1
    try clear p2
    try clear c3
    try clear c3b0
    try clear c3b1
    try clear c4
    try clear c6
    try clear c6b0
    try clear c6b1
    try clear p2
    obtain ⟨kq,x8_4,rfl,HA,HJ4,⟨mc4,rfl⟩⟩ := hcut
    cases kq with
    | zero => exact absurd HA.out (by simp [rela_Field.j1])
    | succ kj4 =>
     have H := HA.out;clear HA;simp only [rela_Field.j1] at H
     by_cases c7 : x8_4 = true
     ·subst c7
      have H1 : (some (1,0)) = some (r1,r2) := by rw [if_pos rfl] at H;exact H
      clear H;have H := H1;clear H1;simp only [Option.some.injEq,Prod.mk.injEq] at H;obtain ⟨rfl,rfl⟩ := H;go_wp2
      go_ret2
      exact ⟨by first | rfl | (simp;done) | (simp [*];done),by repeat (first | exact Drawn0.refl _ | apply Drawn0.step)⟩
     replace c7 := Bool.eq_false_iff.mpr c7;subst c7;have H1 : (if a0 = 34 then (rela_Field.j2 kj4 a0 (a0 == 34)) else (if a0 = 38 then (rela_Field.j2 kj4 a0 (a0 == 38)) else (if a0 = 44 then (rela_Field.j2 kj4 a0 (a0 == 44)) else (rela_Field.j2 kj4 a0 (a0 == 45))))) = some (r1,r2) := by rw [if_neg (show ¬ (false = true) by decide)] at H;exact H
     clear H;have H := H1;clear H1;have HC8 := am0 H;clear H;go_upto_if 11 with (fail)
     go_cut [11] (fun v11 wc => ∃ (kq : Nat) (x11_7 : Bool),v11 = .bool x11_7 ∧ Aside0 (rela_Field.j2 kq a0 x11_7 = some (r1,r2)) ∧ Aside0 (kq ≤ kj4) ∧ Drawn0 w wc)
     case first =>
      have H := HC8.out;clear HC8
      by_cases c9 : a0 = 34
      ·rw [if_pos c9] at H
       have c9b0 : (a0 == 34) = true := beq_iff_eq.mpr c9;have c9b1 : (a0 != 34) = false := bne_eq_false_iff_eq.mpr c9;clear c9
       (first | rw [c9b0] | (simp only [i64_w,i32_w];rw [c9b0]) | skip)
       have H' := am0 H;clear H;go_wp2
       go_meet
       case rel => exact ⟨_,((a0 == 34)),(by first | rfl | (simp;done) | (simp [*];done)),H',⟨by have := HJ1.out;have := HJ4.out;first | omega | exact Nat.le_refl _⟩,by repeat (first | exact Drawn0.refl _ | apply Drawn0.step)⟩
      rw [if_neg c9] at H;have c9b0 : (a0 == 34) = false := beq_eq_false_iff_ne.mpr c9;have c9b1 : (a0 != 34) = true := bne_iff_ne.mpr c9
      (first | rw [c9b0] | (simp only [i64_w,i32_w];rw [c9b0]) | skip)
      by_cases c10 : a0 = 38
      ·rw [if_pos c10] at H
       have c10b0 : (a0 == 38) = true := beq_iff_eq.mpr c10;have c10b1 : (a0 != 38) = false := bne_eq_false_iff_eq.mpr c10;clear c10;have H' := am0 H;clear H;go_wp2
       go_meet
       case rel => exact ⟨_,((a0 == 38)),(by first | rfl | (simp;done) | (simp [*];done)),H',⟨by have := HJ1.out;have := HJ4.out;first | omega | exact Nat.le_refl _⟩,by repeat (first | exact Drawn0.refl _ | apply Drawn0.step)⟩
      rw [if_neg c10] at H;have c10b0 : (a0 == 38) = false := beq_eq_false_iff_ne.mpr c10;have c10b1 : (a0 != 38) = true := bne_iff_ne.mpr c10
      by_cases c11 : a0 = 44
      ·rw [if_pos c11] at H
       have c11b0 : (a0 == 44) = true := beq_iff_eq.mpr c11;have c11b1 : (a0 != 44) = false := bne_eq_false_iff_eq.mpr c11;clear c11;have H' := am0 H;clear H;go_wp2
       go_meet
       case rel => exact ⟨_,((a0 == 44)),(by first | rfl | (simp;done) | (simp [*];done)),H',⟨by have := HJ1.out;have := HJ4.out;first | omega | exact Nat.le_refl _⟩,by repeat (first | exact Drawn0.refl _ | apply Drawn0.step)⟩
      rw [if_neg c11] at H;have c11b0 : (a0 == 44) = false := beq_eq_false_iff_ne.mpr c11;have c11b1 : (a0 != 44) = true := bne_iff_ne.mpr c11;have H' := am0 H;clear H;go_wp2
      go_meet
      case rel => exact ⟨_,((a0 == 45)),(by first | rfl | (simp;done) | (simp [*];done)),H',⟨by have := HJ1.out;have := HJ4.out;first | omega | exact Nat.le_refl _⟩,by repeat (first | exact Drawn0.refl _ | apply Drawn0.step)⟩
     case rest =>
      clear HC8;try clear c1
      try clear p2
      try clear c3
      try clear c3b0
      try clear c3b1
      try clear c4
      try clear c6
      try clear c6b0
      try clear c6b1
      try clear c7
      try clear c8
      try clear c9
      try clear c9b0
      try clear c9b1
      try clear c10
      try clear c10b0
      try clear c10b1
      try clear c11
      try clear c11b0
      try clear c11b1
      try clear p2
      obtain ⟨kq,x11_7,rfl,HA,HJ7,⟨mc7,rfl⟩⟩ := hcut
      cases kq with
      | zero => exact absurd HA.out (by simp [rela_Field.j2])
      | succ kj7 =>
       have H := HA.out;clear HA;simp only [rela_Field.j2] at H
       by_cases c12 : x11_7 = true
       ·subst c12
        have H1 : (some (2,0)) = some (r1,r2) := by rw [if_pos rfl] at H;exact H
        clear H;have H := H1;clear H1;simp only [Option.some.injEq,Prod.mk.injEq] at H;obtain ⟨rfl,rfl⟩ := H;go_wp2
        go_ret2
        exact ⟨by first | rfl | (simp;done) | (simp [*];done),by repeat (first | exact Drawn0.refl _ | apply Drawn0.step)⟩
       replace c12 := Bool.eq_false_iff.mpr c12;subst c12;have H1 : (if a0 = 2 then (rela_Field.j3 kj7 a0 (a0 == 2)) else (if a0 = 36 then (rela_Field.j3 kj7 a0 (a0 == 36)) else (if a0 = 40 then (rela_Field.j3 kj7 a0 (a0 == 40)) else (rela_Field.j3 kj7 a0 (a0 == 18))))) = some (r1,r2) := by rw [if_neg (show ¬ (false = true) by decide)] at H;exact H
       clear H;have H := H1;clear H1;have HC13 := am0 H;clear H;go_upto_if 16 with (fail)
       go_cut [16] (fun v16 wc => ∃ (kq : Nat) (x16_12 : Bool),v16 = .bool x16_12 ∧ Aside0 (rela_Field.j3 kq a0 x16_12 = some (r1,r2)) ∧ Aside0 (kq ≤ kj7) ∧ Drawn0 w wc)
       case first =>
        have H := HC13.out;clear HC13
        by_cases c14 : a0 = 2
        ·rw [if_pos c14] at H
         have c14b0 : (a0 == 2) = true := beq_iff_eq.mpr c14;have c14b1 : (a0 != 2) = false := bne_eq_false_iff_eq.mpr c14;clear c14
         (first | rw [c14b0] | (simp only [i64_w,i32_w];rw [c14b0]) | skip)
         have H' := am0 H;clear H;go_wp2
         go_meet
         case rel => exact ⟨_,((a0 == 2)),(by first | rfl | (simp;done) | (simp [*];done)),H',⟨by have := HJ1.out;have := HJ4.out;have := HJ7.out;first | omega | exact Nat.le_refl _⟩,by repeat (first | exact Drawn0.refl _ | apply Drawn0.step)⟩
        rw [if_neg c14] at H;have c14b0 : (a0 == 2) = false := beq_eq_false_iff_ne.mpr c14;have c14b1 : (a0 != 2) = true := bne_iff_ne.mpr c14
        (first | rw [c14b0] | (simp only [i64_w,i32_w];rw [c14b0]) | skip)
        by_cases c15 : a0 = 36
        ·rw [if_pos c15] at H
         have c15b0 : (a0 == 36) = true := beq_iff_eq.mpr c15;have c15b1 : (a0 != 36) = false := bne_eq_false_iff_eq.mpr c15;clear c15;have H' := am0 H;clear H;go_wp2
         go_meet
         case rel => exact ⟨_,((a0 == 36)),(by first | rfl | (simp;done) | (simp [*];done)),H',⟨by have := HJ1.out;have := HJ4.out;have := HJ7.out;first | omega | exact Nat.le_refl _⟩,by repeat (first | exact Drawn0.refl _ | apply Drawn0.step)⟩
        rw [if_neg c15] at H;have c15b0 : (a0 == 36) = false := beq_eq_false_iff_ne.mpr c15;have c15b1 : (a0 != 36) = true := bne_iff_ne.mpr c15
        by_cases c16 : a0 = 40
        ·rw [if_pos c16] at H
         have c16b0 : (a0 == 40) = true := beq_iff_eq.mpr c16;have c16b1 : (a0 != 40) = false := bne_eq_false_iff_eq.mpr c16;clear c16;have H' := am0 H;clear H;go_wp2
         go_meet
         case rel => exact ⟨_,((a0 == 40)),(by first | rfl | (simp;done) | (simp [*];done)),H',⟨by have := HJ1.out;have := HJ4.out;have := HJ7.out;first | omega | exact Nat.le_refl _⟩,by repeat (first | exact Drawn0.refl _ | apply Drawn0.step)⟩
        rw [if_neg c16] at H;have c16b0 : (a0 == 40) = false := beq_eq_false_iff_ne.mpr c16;have c16b1 : (a0 != 40) = true := bne_iff_ne.mpr c16;have H' := am0 H;clear H;go_wp2
        go_meet
        case rel => exact ⟨_,((a0 == 18)),(by first | rfl | (simp;done) | (simp [*];done)),H',⟨by have := HJ1.out;have := HJ4.out;have := HJ7.out;first | omega | exact Nat.le_refl _⟩,by repeat (first | exact Drawn0.refl _ | apply Drawn0.step)⟩
       case rest =>
        clear HC13;try clear c1
        try clear p2
        try clear c3
        try clear c3b0
        try clear c3b1
        try clear c4
        try clear c6
        try clear c6b0
        try clear c6b1
        try clear c7
        try clear c8
        try clear c9
        try clear c9b0
        try clear c9b1
        try clear c10
        try clear c10b0
        try clear c10b1
        try clear c11
        try clear c11b0
        try clear c11b1
        try clear c12
        try clear c14
        try clear c14b0
        try clear c14b1
        try clear c15
        try clear c15b0
        try clear c15b1
        try clear c16
        try clear c16b0
        try clear c16b1
        try clear p2
        obtain ⟨kq,x16_12,rfl,HA,HJ12,⟨mc12,rfl⟩⟩ := hcut
        cases kq with
        | zero => exact absurd HA.out (by simp [rela_Field.j3])
        | succ kj12 =>
         have H := HA.out;clear HA;simp only [rela_Field.j3] at H
         by_cases c17 : x16_12 = true
         ·subst c17
          have H1 : (some (8,0)) = some (r1,r2) := by rw [if_pos rfl] at H;exact H
          clear H;have H := H1;clear H1;simp only [Option.some.injEq,Prod.mk.injEq] at H;obtain ⟨rfl,rfl⟩ := H;go_wp2
          go_ret2
          exact ⟨by first | rfl | (simp;done) | (simp [*];done),by repeat (first | exact Drawn0.refl _ | apply Drawn0.step)⟩
         replace c17 := Bool.eq_false_iff.mpr c17;subst c17;have H1 : (if a0 = 1 then (rela_Field.j4 kj12 (a0 == 1)) else (if a0 = 16 then (rela_Field.j4 kj12 (a0 == 16)) else (if a0 = 17 then (rela_Field.j4 kj12 (a0 == 17)) else (if a0 = 23 then (rela_Field.j4 kj12 (a0 == 23)) else (if a0 = 24 then (rela_Field.j4 kj12 (a0 == 24)) else (if a0 = 25 then (rela_Field.j4 kj12 (a0 == 25)) else (if a0 = 26 then (rela_Field.j4 kj12 (a0 == 26)) else (if a0 = 27 then (rela_Field.j4 kj12 (a0 == 27)) else (if a0 = 28 then (rela_Field.j4 kj12 (a0 == 28)) else (if a0 = 35 then (rela_Field.j4 kj12 (a0 == 35)) else (rela_Field.j4 kj12 (a0 == 39)))))))))))) = some (r1,r2) := by rw [if_neg (show ¬ (false = true) by decide)] at H;exact H
         clear H;have H := H1;clear H1;have HC18 := am0 H;clear H;go_upto_if 21 with (fail)
         go_cut [21] (fun v21 wc => ∃ (kq : Nat) (x21_17 : Bool),v21 = .bool x21_17 ∧ Aside0 (rela_Field.j4 kq x21_17 = some (r1,r2)) ∧ Aside0 (kq ≤ kj12) ∧ Drawn0 w wc)
         case first =>
          have H := HC18.out;clear HC18
          by_cases c19 : a0 = 1
          ·rw [if_pos c19] at H
           have c19b0 : (a0 == 1) = true := beq_iff_eq.mpr c19;have c19b1 : (a0 != 1) = false := bne_eq_false_iff_eq.mpr c19;clear c19
           (first | rw [c19b0] | (simp only [i64_w,i32_w];rw [c19b0]) | skip)
           have H' := am0 H;clear H;go_wp2
           go_meet
           case rel => exact ⟨_,((a0 == 1)),(by first | rfl | (simp;done) | (simp [*];done)),H',⟨by have := HJ1.out;have := HJ4.out;have := HJ7.out;have := HJ12.out;first | omega | exact Nat.le_refl _⟩,by repeat (first | exact Drawn0.refl _ | apply Drawn0.step)⟩
          rw [if_neg c19] at H;have c19b0 : (a0 == 1) = false := beq_eq_false_iff_ne.mpr c19;have c19b1 : (a0 != 1) = true := bne_iff_ne.mpr c19
          (first | rw [c19b0] | (simp only [i64_w,i32_w];rw [c19b0]) | skip)
          by_cases c20 : a0 = 16
          ·rw [if_pos c20] at H
           have c20b0 : (a0 == 16) = true := beq_iff_eq.mpr c20;have c20b1 : (a0 != 16) = false := bne_eq_false_iff_eq.mpr c20;clear c20;have H' := am0 H;clear H;go_wp2
           go_meet
           case rel => exact ⟨_,((a0 == 16)),(by first | rfl | (simp;done) | (simp [*];done)),H',⟨by have := HJ1.out;have := HJ4.out;have := HJ7.out;have := HJ12.out;first | omega | exact Nat.le_refl _⟩,by repeat (first | exact Drawn0.refl _ | apply Drawn0.step)⟩
          rw [if_neg c20] at H;have c20b0 : (a0 == 16) = false := beq_eq_false_iff_ne.mpr c20;have c20b1 : (a0 != 16) = true := bne_iff_ne.mpr c20
          by_cases c21 : a0 = 17
          ·rw [if_pos c21] at H
           have c21b0 : (a0 == 17) = true := beq_iff_eq.mpr c21;have c21b1 : (a0 != 17) = false := bne_eq_false_iff_eq.mpr c21;clear c21;have H' := am0 H;clear H;go_wp2
           go_meet
           case rel => exact ⟨_,((a0 == 17)),(by first | rfl | (simp;done) | (simp [*];done)),H',⟨by have := HJ1.out;have := HJ4.out;have := HJ7.out;have := HJ12.out;first | omega | exact Nat.le_refl _⟩,by repeat (first | exact Drawn0.refl _ | apply Drawn0.step)⟩
          rw [if_neg c21] at H;have c21b0 : (a0 == 17) = false := beq_eq_false_iff_ne.mpr c21;have c21b1 : (a0 != 17) = true := bne_iff_ne.mpr c21
          by_cases c22 : a0 = 23
          ·rw [if_pos c22] at H
           have c22b0 : (a0 == 23) = true := beq_iff_eq.mpr c22;have c22b1 : (a0 != 23) = false := bne_eq_false_iff_eq.mpr c22;clear c22;have H' := am0 H;clear H;go_wp2
           go_meet
           case rel => exact ⟨_,((a0 == 23)),(by first | rfl | (simp;done) | (simp [*];done)),H',⟨by have := HJ1.out;have := HJ4.out;have := HJ7.out;have := HJ12.out;first | omega | exact Nat.le_refl _⟩,by repeat (first | exact Drawn0.refl _ | apply Drawn0.step)⟩
          rw [if_neg c22] at H;have c22b0 : (a0 == 23) = false := beq_eq_false_iff_ne.mpr c22;have c22b1 : (a0 != 23) = true := bne_iff_ne.mpr c22
          by_cases c23 : a0 = 24
          ·rw [if_pos c23] at H
           have c23b0 : (a0 == 24) = true := beq_iff_eq.mpr c23;have c23b1 : (a0 != 24) = false := bne_eq_false_iff_eq.mpr c23;clear c23;have H' := am0 H;clear H;go_wp2
           go_meet
           case rel => exact ⟨_,((a0 == 24)),(by first | rfl | (simp;done) | (simp [*];done)),H',⟨by have := HJ1.out;have := HJ4.out;have := HJ7.out;have := HJ12.out;first | omega | exact Nat.le_refl _⟩,by repeat (first | exact Drawn0.refl _ | apply Drawn0.step)⟩
          rw [if_neg c23] at H;have c23b0 : (a0 == 24) = false := beq_eq_false_iff_ne.mpr c23;have c23b1 : (a0 != 24) = true := bne_iff_ne.mpr c23
          by_cases c24 : a0 = 25
          ·rw [if_pos c24] at H
           have c24b0 : (a0 == 25) = true := beq_iff_eq.mpr c24;have c24b1 : (a0 != 25) = false := bne_eq_false_iff_eq.mpr c24;clear c24;have H' := am0 H;clear H;go_wp2
           go_meet
           case rel => exact ⟨_,((a0 == 25)),(by first | rfl | (simp;done) | (simp [*];done)),H',⟨by have := HJ1.out;have := HJ4.out;have := HJ7.out;have := HJ12.out;first | omega | exact Nat.le_refl _⟩,by repeat (first | exact Drawn0.refl _ | apply Drawn0.step)⟩
          rw [if_neg c24] at H;have c24b0 : (a0 == 25) = false := beq_eq_false_iff_ne.mpr c24;have c24b1 : (a0 != 25) = true := bne_iff_ne.mpr c24
          by_cases c25 : a0 = 26
          ·rw [if_pos c25] at H
           have c25b0 : (a0 == 26) = true := beq_iff_eq.mpr c25;have c25b1 : (a0 != 26) = false := bne_eq_false_iff_eq.mpr c25;clear c25;have H' := am0 H;clear H;go_wp2
           go_meet
           case rel => exact ⟨_,((a0 == 26)),(by first | rfl | (simp;done) | (simp [*];done)),H',⟨by have := HJ1.out;have := HJ4.out;have := HJ7.out;have := HJ12.out;first | omega | exact Nat.le_refl _⟩,by repeat (first | exact Drawn0.refl _ | apply Drawn0.step)⟩
          rw [if_neg c25] at H;have c25b0 : (a0 == 26) = false := beq_eq_false_iff_ne.mpr c25;have c25b1 : (a0 != 26) = true := bne_iff_ne.mpr c25
          by_cases c26 : a0 = 27
          ·rw [if_pos c26] at H
           have c26b0 : (a0 == 27) = true := beq_iff_eq.mpr c26;have c26b1 : (a0 != 27) = false := bne_eq_false_iff_eq.mpr c26;clear c26;have H' := am0 H;clear H;go_wp2
           go_meet
           case rel => exact ⟨_,((a0 == 27)),(by first | rfl | (simp;done) | (simp [*];done)),H',⟨by have := HJ1.out;have := HJ4.out;have := HJ7.out;have := HJ12.out;first | omega | exact Nat.le_refl _⟩,by repeat (first | exact Drawn0.refl _ | apply Drawn0.step)⟩
          rw [if_neg c26] at H;have c26b0 : (a0 == 27) = false := beq_eq_false_iff_ne.mpr c26;have c26b1 : (a0 != 27) = true := bne_iff_ne.mpr c26
          by_cases c27 : a0 = 28
          ·rw [if_pos c27] at H
           have c27b0 : (a0 == 28) = true := beq_iff_eq.mpr c27;have c27b1 : (a0 != 28) = false := bne_eq_false_iff_eq.mpr c27;clear c27;have H' := am0 H;clear H;go_wp2
           go_meet
           case rel => exact ⟨_,((a0 == 28)),(by first | rfl | (simp;done) | (simp [*];done)),H',⟨by have := HJ1.out;have := HJ4.out;have := HJ7.out;have := HJ12.out;first | omega | exact Nat.le_refl _⟩,by repeat (first | exact Drawn0.refl _ | apply Drawn0.step)⟩
          rw [if_neg c27] at H;have c27b0 : (a0 == 28) = false := beq_eq_false_iff_ne.mpr c27;have c27b1 : (a0 != 28) = true := bne_iff_ne.mpr c27
          by_cases c28 : a0 = 35
          ·rw [if_pos c28] at H
           have c28b0 : (a0 == 35) = true := beq_iff_eq.mpr c28;have c28b1 : (a0 != 35) = false := bne_eq_false_iff_eq.mpr c28;clear c28;have H' := am0 H;clear H;go_wp2
           go_meet
           case rel => exact ⟨_,((a0 == 35)),(by first | rfl | (simp;done) | (simp [*];done)),H',⟨by have := HJ1.out;have := HJ4.out;have := HJ7.out;have := HJ12.out;first | omega | exact Nat.le_refl _⟩,by repeat (first | exact Drawn0.refl _ | apply Drawn0.step)⟩
          rw [if_neg c28] at H;have c28b0 : (a0 == 35) = false := beq_eq_false_iff_ne.mpr c28;have c28b1 : (a0 != 35) = true := bne_iff_ne.mpr c28;have H' := am0 H;clear H;go_wp2
          go_meet
          case rel => exact ⟨_,((a0 == 39)),(by first | rfl | (simp;done) | (simp [*];done)),H',⟨by have := HJ1.out;have := HJ4.out;have := HJ7.out;have := HJ12.out;first | omega | exact Nat.le_refl _⟩,by repeat (first | exact Drawn0.refl _ | apply Drawn0.step)⟩
         case rest =>
          clear HC18;try clear c1
          try clear c2
          try clear p2
          try clear c3
          try clear c3b0
          try clear c3b1
          try clear c4
          try clear c6
          try clear c6b0
          try clear c6b1
          try clear c7
          try clear c8
          try clear c9
          try clear c9b0
          try clear c9b1
          try clear c10
          try clear c10b0
          try clear c10b1
          try clear c11
          try clear c11b0
          try clear c11b1
          try clear c12
          try clear c14
          try clear c14b0
          try clear c14b1
          try clear c15
          try clear c15b0
          try clear c15b1
          try clear c16
          try clear c16b0
          try clear c16b1
          try clear c17
          try clear c19
          try clear c19b0
          try clear c19b1
          try clear c20
          try clear c20b0
          try clear c20b1
          try clear c21
          try clear c21b0
          try clear c21b1
          try clear c22
          try clear c22b0
          try clear c22b1
          try clear c23
          try clear c23b0
          try clear c23b1
          try clear c24
          try clear c24b0
          try clear c24b1
          try clear c25
          try clear c25b0
          try clear c25b1
          try clear c26
          try clear c26b0
          try clear c26b1
          try clear c27
          try clear c27b0
          try clear c27b1
          try clear c28
          try clear c28b0
          try clear c28b1
          try clear p2
          obtain ⟨kq,x21_17,rfl,HA,HJ17,⟨mc17,rfl⟩⟩ := hcut
          cases kq with
          | zero => exact absurd HA.out (by simp [rela_Field.j4])
          | succ kj17 =>
           have H := HA.out;clear HA;simp only [rela_Field.j4] at H
           by_cases c29 : x21_17 = true
           ·subst c29
            have H1 : (some (4,0)) = some (r1,r2) := by rw [if_pos rfl] at H;exact H
            clear H;have H := H1;clear H1;simp only [Option.some.injEq,Prod.mk.injEq] at H;obtain ⟨rfl,rfl⟩ := H;go_wp2
            go_ret2
            exact ⟨by first | rfl | (simp;done) | (simp [*];done),by repeat (first | exact Drawn0.refl _ | apply Drawn0.step)⟩
           replace c29 := Bool.eq_false_iff.mpr c29;subst c29;have H1 : (some (0,2)) = some (r1,r2) := by rw [if_neg (show ¬ (false = true) by decide)] at H;exact H
           clear H;have H := H1;clear H1;simp only [Option.some.injEq,Prod.mk.injEq] at H;obtain ⟨rfl,rfl⟩ := H;go_wp2
           go_ret2
           exact ⟨by first | rfl | (simp;done) | (simp [*];done),by repeat (first | exact Drawn0.refl _ | apply Drawn0.step)⟩
def rela_set_has.f (a0 : Int) (a1 : Int) : Option (Bool) := if a1 < 64 then (if 0 ≤ a1 then (some ((Go.bits .and .u64 (shr .u64 a0 a1) 1) == 1)) else (none)) else (some false)
set_option maxHeartbeats 8000000 in
set_option maxRecDepth 100000 in
theorem rela_set_has.calls (a0 : Int) (a1 : Int) (r : Bool) (w : World) (h : rela_set_has.f a0 a1 = some r) :
  Calls Tryd.prog 82 #[.int .u64 a0, .int .u8 a1] w fun e w' => e = .returned (.bool r) ∧ Drawn0 w w' := by
 have H : (if a1 < 64 then (if 0 ≤ a1 then (some ((Go.bits .and .u64 (shr .u64 a0 a1) 1) == 1)) else (none)) else (some false)) = some r := h;clear h
 by_cases c3 : a1 < 64
 ·rw [if_pos c3] at H
  have c3b0 : decide (a1 < 64) = true := decide_eq_true c3;clear c3
  by_cases c4 : 0 ≤ a1
  ·rw [if_pos c4] at H
   have c4b0 := eq_true c4;have c4b1 : decide (0 ≤ a1) = true := decide_eq_true c4;clear c4;obtain ⟨ji5,hji5⟩ : ∃ j_ : Int,(shr .u64 a0 a1) = j_ := ⟨_,rfl⟩;replace H : (some ((Go.bits .and .u64 (ji5) 1) == 1)) = some r := by first | (rw [hji5] at H;exact H) | (simp only [hji5] at H ⊢;exact H)
   have hji5_ : (a0 / 2 ^ min a1.toNat 64) = ji5 := hji5;have hji5z : a1 ≤ 64 → (a0 / 2 ^ a1.toNat) = ji5 := shr_small hji5;obtain rfl := Option.some.inj H;go_enter Tryd.func82,Tryd.ntmps82
   go_wp2
   go_ret
   exact ⟨by first | rfl | (simp;done) | (simp only [← hji5] <;> (first | rfl | simp)) | (simp [*];done),by repeat (first | exact Drawn0.refl _ | apply Drawn0.step)⟩
  rw [if_neg c4] at H;exact absurd H (by simp)
 rw [if_neg c3] at H;have c3b0 : decide (a1 < 64) = false := decide_eq_false c3;clear c3;obtain rfl := Option.some.inj H;go_enter Tryd.func82,Tryd.ntmps82
 go_wp2
 go_ret
 exact ⟨by first | rfl | (simp;done) | (simp [*];done),by repeat (first | exact Drawn0.refl _ | apply Drawn0.step)⟩
mutual
def rela_may.j0 : Nat → Int → Int → Int → Int → Int → Int → Int → Int → Int → ByteArray → Int → List Int → Int → Option (Bool)
 | 0,_,_,_,_,_,_,_,_,_,_,_,_,_ => none
 | k + 1,x2,x7,x8,x9,x415000,x415001,x415002,x415003,x415004,x416000,x416001,x416002,x416003 => if x8 = 0 then (if x9 = 4 then (rela_may.j1 k x2 x9 true x415000 x415001 x415002 x415003 x415004) else (if x415001 < 0 then (rela_may.j1 k x2 x9 true x415000 x415001 x415002 x415003 x415004) else (if x415001 > (wrap64 ((x416002.length : Int) - x7)) then (rela_may.j1 k x2 x9 true x415000 x415001 x415002 x415003 x415004) else (if x415004 < (-2147483648) then (rela_may.j1 k x2 x9 true x415000 x415001 x415002 x415003 x415004) else (rela_may.j1 k x2 x9 (decide (x415004 > 4294967295)) x415000 x415001 x415002 x415003 x415004))))) else (rela_may.j1 k x2 x9 true x415000 x415001 x415002 x415003 x415004)
def rela_may.j1 : Nat → Int → Int → Bool → Int → Int → Int → Int → Int → Option (Bool)
 | 0,_,_,_,_,_,_,_,_ => none
 | k + 1,x2,x9,x60,x415000,x415001,x415002,x415003,x415004 => if x60 = true then (some false) else ((rela_set_has.f 2190433320966 x415002).bind fun t420 => (if t420 = true then (rela_may.j2 k x2 false x415000 x415001 x415002 x415003 x415004) else (if x9 = 1 then (rela_may.j2 k x2 ((Go.bits .and .i64 x415001 1) == 1) x415000 x415001 x415002 x415003 x415004) else (rela_may.j2 k x2 true x415000 x415001 x415002 x415003 x415004))))
def rela_may.j2 : Nat → Int → Bool → Int → Int → Int → Int → Int → Option (Bool)
 | 0,_,_,_,_,_,_,_ => none
 | k + 1,x2,x74,x415000,x415001,x415002,x415003,x415004 => if x74 = true then (some false) else ((rela_set_has.f 2251799864016896 x415002).bind fun t421 => (if t421 = true then (if x415004 = 0 then (if x415002 = 43 then (if x415004 < 0 then (rela_may.j3 k x2 true x415000 x415001 x415002 x415003 x415004) else (if x415004 > 62 then (rela_may.j3 k x2 true x415000 x415001 x415002 x415003 x415004) else (rela_may.j3 k x2 ((Go.bits .and .i64 x415004 1) == 1) x415000 x415001 x415002 x415003 x415004))) else (rela_may.j3 k x2 false x415000 x415001 x415002 x415003 x415004)) else (rela_may.j3 k x2 true x415000 x415001 x415002 x415003 x415004)) else (if x415002 = 43 then (if x415004 < 0 then (rela_may.j3 k x2 true x415000 x415001 x415002 x415003 x415004) else (if x415004 > 62 then (rela_may.j3 k x2 true x415000 x415001 x415002 x415003 x415004) else (rela_may.j3 k x2 ((Go.bits .and .i64 x415004 1) == 1) x415000 x415001 x415002 x415003 x415004))) else (rela_may.j3 k x2 false x415000 x415001 x415002 x415003 x415004))))
def rela_may.j3 : Nat → Int → Bool → Int → Int → Int → Int → Int → Option (Bool)
 | 0,_,_,_,_,_,_,_ => none
 | k + 1,x2,x103,x415000,x415001,x415002,x415003,x415004 => if x103 = true then (some false) else ((rela_set_has.f 2260595906707456 x415002).bind fun t422 => (if t422 = true then (some (x415003 == (-1))) else (if x415003 ≥ 0 then (some (decide (x415003 < x2))) else (some false))))
end
def rela_may.f (k : Nat) (a0_0 : Int) (a0_1 : Int) (a0_2 : Int) (a0_3 : Int) (a0_4 : Int) (a1_0 : ByteArray) (a1_1 : Int) (l1_2 : List Int) (a1_3 : Int) (a2 : Int) : Option (Bool) := (rela_Field.f k a0_2).bind fun bt416 => ((sect_Kind.f a1_0).bind fun bt418 => (if a0_2 = 43 then (rela_may.j0 k a2 (mx bt416.1 a0_4) bt416.2 bt418.1 a0_0 a0_1 a0_2 a0_3 a0_4 a1_0 a1_1 l1_2 a1_3) else (rela_may.j0 k a2 bt416.1 bt416.2 bt418.1 a0_0 a0_1 a0_2 a0_3 a0_4 a1_0 a1_1 l1_2 a1_3)))
theorem rela_may.mono_l : ∀ k,(∀ y0 y1 y2 y3 y4 y5 y6 y7 y8 y9 y10 y11 y12,LeO (rela_may.j0 k y0 y1 y2 y3 y4 y5 y6 y7 y8 y9 y10 y11 y12) (rela_may.j0 (k + 1) y0 y1 y2 y3 y4 y5 y6 y7 y8 y9 y10 y11 y12)) ∧ (∀ y0 y1 y2 y3 y4 y5 y6 y7,LeO (rela_may.j1 k y0 y1 y2 y3 y4 y5 y6 y7) (rela_may.j1 (k + 1) y0 y1 y2 y3 y4 y5 y6 y7)) ∧ (∀ y0 y1 y2 y3 y4 y5 y6,LeO (rela_may.j2 k y0 y1 y2 y3 y4 y5 y6) (rela_may.j2 (k + 1) y0 y1 y2 y3 y4 y5 y6)) ∧ (∀ y0 y1 y2 y3 y4 y5 y6,LeO (rela_may.j3 k y0 y1 y2 y3 y4 y5 y6) (rela_may.j3 (k + 1) y0 y1 y2 y3 y4 y5 y6))
 | 0 => ⟨fun _ _ _ _ _ _ _ _ _ _ _ _ _ r h => by simp [rela_may.j0] at h,fun _ _ _ _ _ _ _ _ r h => by simp [rela_may.j1] at h,fun _ _ _ _ _ _ _ r h => by simp [rela_may.j2] at h,fun _ _ _ _ _ _ _ r h => by simp [rela_may.j3] at h⟩
 | k + 1 => by
  obtain ⟨ih0,ih1,ih2,ih3⟩ := rela_may.mono_l k;refine ⟨?_, ?_, ?_, ?_⟩
  ·intro y0 y1 y2 y3 y4 y5 y6 y7 y8 y9 y10 y11 y12
   unfold rela_may.j0;repeat' first
   | (with_reducible exact ih0 _ _ _ _ _ _ _ _ _ _ _ _ _)
   | (with_reducible exact ih1 _ _ _ _ _ _ _ _)
   | (with_reducible exact ih2 _ _ _ _ _ _ _)
   | (with_reducible exact ih3 _ _ _ _ _ _ _)
   | (with_reducible exact rela_Field.mono _ _)
   | (with_reducible exact LeO.refl _)
   | (with_reducible exact LeO.none _)
   | (with_reducible refine LeO.ite ?_ ?_)
   | (with_reducible refine LeO.bind ?_ (fun _ => ?_))
   | exact ih0 _ _ _ _ _ _ _ _ _ _ _ _ _
   | exact ih1 _ _ _ _ _ _ _ _
   | exact ih2 _ _ _ _ _ _ _
   | exact ih3 _ _ _ _ _ _ _
   | exact rela_Field.mono _ _
   | exact LeO.none _
   | refine LeO.ite ?_ ?_
   | refine LeO.bind ?_ (fun _ => ?_)
  ·intro y0 y1 y2 y3 y4 y5 y6 y7
   unfold rela_may.j1;repeat' first
   | (with_reducible exact ih0 _ _ _ _ _ _ _ _ _ _ _ _ _)
   | (with_reducible exact ih1 _ _ _ _ _ _ _ _)
   | (with_reducible exact ih2 _ _ _ _ _ _ _)
   | (with_reducible exact ih3 _ _ _ _ _ _ _)
   | (with_reducible exact rela_Field.mono _ _)
   | (with_reducible exact LeO.refl _)
   | (with_reducible exact LeO.none _)
   | (with_reducible refine LeO.ite ?_ ?_)
   | (with_reducible refine LeO.bind ?_ (fun _ => ?_))
   | exact ih0 _ _ _ _ _ _ _ _ _ _ _ _ _
   | exact ih1 _ _ _ _ _ _ _ _
   | exact ih2 _ _ _ _ _ _ _
   | exact ih3 _ _ _ _ _ _ _
   | exact rela_Field.mono _ _
   | exact LeO.none _
   | refine LeO.ite ?_ ?_
   | refine LeO.bind ?_ (fun _ => ?_)
  ·intro y0 y1 y2 y3 y4 y5 y6
   unfold rela_may.j2;repeat' first
   | (with_reducible exact ih0 _ _ _ _ _ _ _ _ _ _ _ _ _)
   | (with_reducible exact ih1 _ _ _ _ _ _ _ _)
   | (with_reducible exact ih2 _ _ _ _ _ _ _)
   | (with_reducible exact ih3 _ _ _ _ _ _ _)
   | (with_reducible exact rela_Field.mono _ _)
   | (with_reducible exact LeO.refl _)
   | (with_reducible exact LeO.none _)
   | (with_reducible refine LeO.ite ?_ ?_)
   | (with_reducible refine LeO.bind ?_ (fun _ => ?_))
   | exact ih0 _ _ _ _ _ _ _ _ _ _ _ _ _
   | exact ih1 _ _ _ _ _ _ _ _
   | exact ih2 _ _ _ _ _ _ _
   | exact ih3 _ _ _ _ _ _ _
   | exact rela_Field.mono _ _
   | exact LeO.none _
   | refine LeO.ite ?_ ?_
   | refine LeO.bind ?_ (fun _ => ?_)
  intro y0 y1 y2 y3 y4 y5 y6;unfold rela_may.j3;repeat' first
  | (with_reducible exact ih0 _ _ _ _ _ _ _ _ _ _ _ _ _)
  | (with_reducible exact ih1 _ _ _ _ _ _ _ _)
  | (with_reducible exact ih2 _ _ _ _ _ _ _)
  | (with_reducible exact ih3 _ _ _ _ _ _ _)
  | (with_reducible exact rela_Field.mono _ _)
  | (with_reducible exact LeO.refl _)
  | (with_reducible exact LeO.none _)
  | (with_reducible refine LeO.ite ?_ ?_)
  | (with_reducible refine LeO.bind ?_ (fun _ => ?_))
  | exact ih0 _ _ _ _ _ _ _ _ _ _ _ _ _
  | exact ih1 _ _ _ _ _ _ _ _
  | exact ih2 _ _ _ _ _ _ _
  | exact ih3 _ _ _ _ _ _ _
  | exact rela_Field.mono _ _
  | exact LeO.none _
  | refine LeO.ite ?_ ?_
  | refine LeO.bind ?_ (fun _ => ?_)
theorem rela_may.mono : ∀ a0 a1 a2 a3 a4 a5 a6 a7 a8 a9 k,LeO (rela_may.f k a0 a1 a2 a3 a4 a5 a6 a7 a8 a9) (rela_may.f (k + 1) a0 a1 a2 a3 a4 a5 a6 a7 a8 a9) := by
 intro a0 a1 a2 a3 a4 a5 a6 a7 a8 a9 k;obtain ⟨ih0,ih1,ih2,ih3⟩ := rela_may.mono_l k;unfold rela_may.f
 repeat' first
   | (with_reducible exact ih0 _ _ _ _ _ _ _ _ _ _ _ _ _)
   | (with_reducible exact ih1 _ _ _ _ _ _ _ _)
   | (with_reducible exact ih2 _ _ _ _ _ _ _)
   | (with_reducible exact ih3 _ _ _ _ _ _ _)
   | (with_reducible exact rela_Field.mono _ _)
   | (with_reducible exact LeO.refl _)
   | (with_reducible exact LeO.none _)
   | (with_reducible refine LeO.ite ?_ ?_)
   | (with_reducible refine LeO.bind ?_ (fun _ => ?_))
   | exact ih0 _ _ _ _ _ _ _ _ _ _ _ _ _
   | exact ih1 _ _ _ _ _ _ _ _
   | exact ih2 _ _ _ _ _ _ _
   | exact ih3 _ _ _ _ _ _ _
   | exact rela_Field.mono _ _
   | exact LeO.none _
   | refine LeO.ite ?_ ?_
   | refine LeO.bind ?_ (fun _ => ?_)
set_option maxHeartbeats 8000000 in
set_option maxRecDepth 100000 in
theorem rela_may.calls (k : Nat) (a0_0 : Int) (a0_1 : Int) (a0_2 : Int) (a0_3 : Int) (a0_4 : Int) (a1_0 : ByteArray) (a1_1 : Int) (A1_2 : Option Addr) (c1_2 : Nat) (l1_2 : List Int) (a1_3 : Int) (a2 : Int) (r : Bool) (w : World) (hr1_2 : Kd.C (Kd.int .u8) w A1_2 l1_2.length l1_2) (hc1_2 : l1_2.length ≤ c1_2) (h : rela_may.f k a0_0 a0_1 a0_2 a0_3 a0_4 a1_0 a1_1 l1_2 a1_3 a2 = some r) :
  Calls Tryd.prog 63 #[.agg #[.int .i64 a0_0, .int .i64 a0_1, .int .u8 a0_2, .int .i64 a0_3, .int .i64 a0_4], .agg #[.string a1_0, .int .i64 a1_1, .slice A1_2 l1_2.length c1_2, .int .i64 a1_3], .int .i64 a2] w fun e w' => e = .returned (.bool r) ∧ Below w.heap.size w w' := by
 have hu94 := Tryd.underlying94;have hu72 := Tryd.underlying72;have HR1_2 := am0 hr1_2;have HC1_2 := am0 hc1_2;clear hr1_2 hc1_2;have HB := am0 (Below.refl w.heap.size w);have H : ((rela_Field.f k a0_2).bind fun bt416 => ((sect_Kind.f a1_0).bind fun bt418 => (if a0_2 = 43 then (rela_may.j0 k a2 (mx bt416.1 a0_4) bt416.2 bt418.1 a0_0 a0_1 a0_2 a0_3 a0_4 a1_0 a1_1 l1_2 a1_3) else (rela_may.j0 k a2 bt416.1 bt416.2 bt418.1 a0_0 a0_1 a0_2 a0_3 a0_4 a1_0 a1_1 l1_2 a1_3)))) = some r := h;clear h;replace H := Option.bind_eq_some_iff.mp H;obtain ⟨⟨t416,t417⟩,A40,H⟩ := H;replace H : ((sect_Kind.f a1_0).bind fun bt418 => (if a0_2 = 43 then (rela_may.j0 k a2 (mx t416 a0_4) t417 bt418.1 a0_0 a0_1 a0_2 a0_3 a0_4 a1_0 a1_1 l1_2 a1_3) else (rela_may.j0 k a2 t416 t417 bt418.1 a0_0 a0_1 a0_2 a0_3 a0_4 a1_0 a1_1 l1_2 a1_3))) = some r := H;have A4 := am0 A40;clear A40;replace H := Option.bind_eq_some_iff.mp H;obtain ⟨⟨t418,t419⟩,A50,H⟩ := H;replace H : (if a0_2 = 43 then (rela_may.j0 k a2 (mx t416 a0_4) t417 t418 a0_0 a0_1 a0_2 a0_3 a0_4 a1_0 a1_1 l1_2 a1_3) else (rela_may.j0 k a2 t416 t417 t418 a0_0 a0_1 a0_2 a0_3 a0_4 a1_0 a1_1 l1_2 a1_3)) = some r := H;have A5 := am0 A50;clear A50;have HC6 := am0 H;clear H;go_enter Tryd.func63,Tryd.ntmps63
 go_upto_if 25 with (first | ((with_reducible refine gate_dst (N := 3) rfl ?_);(try (refine gate_guard (by rfl) ?_;dsimp only));refine box_event ?hg (N := 3) ?hd (cs := #[.int .i64 a0_0, .int .i64 a0_1, .int .u8 a0_2, .int .i64 a0_3, .int .i64 a0_4]) (t := 94) ?hr ?_;(case hd => rfl);(case hg => rfl);(case hr => first | (go_simp;done) | (go_simp;rfl));intro gb414 hg w7 hbox hb;have n0_ := am0 (below_step (by repeat (first | (with_reducible first | exact HB.out | apply below_alloc | apply pw_below_drewN | apply below_drew1) | exact HB.out)) hb);have n1_ := am0 (hbox);have n2_ := am0 ((by rw [hg];exact (below_size (by repeat (first | (with_reducible first | exact HB.out | apply below_alloc | apply pw_below_drewN | apply below_drew1) | exact HB.out))) : w.heap.size ≤ gb414));have n3_ := am0 ((by rw [hg];exact (below_size (by repeat (first | (with_reducible first | exact HB.out | apply below_alloc | apply pw_below_drewN | apply below_drew1) | exact HB.out))) : w.heap.size ≤ gb414));clear HB;have HB := n0_;have BK414 := n1_;have GW414 := n2_;have GE414 := n3_;clear n0_ n1_ n2_ n3_;clear hb hbox hg) | ((with_reducible refine gate_dst (N := 4) rfl ?_);(try (refine gate_guard (by rfl) ?_;dsimp only));refine box_event ?hg (N := 4) ?hd (cs := #[.string a1_0, .int .i64 a1_1, .slice A1_2 l1_2.length c1_2, .int .i64 a1_3]) (t := 72) ?hr ?_;(case hd => rfl);(case hg => rfl);(case hr => first | (go_simp;done) | (go_simp;rfl));intro gb415 hg w8 hbox hb;have n0_ := am0 (blk_below (g := gb414) (o := .cells #[.int .i64 a0_0, .int .i64 a0_1, .int .u8 a0_2, .int .i64 a0_3, .int .i64 a0_4] 94 (0,0)) (by (with_reducible repeat (first | refine blk_drewN ?_ _ | refine blk_drew ?_ | refine blk_alloc ?_ _));exact BK414.out) hb);have n1_ := am0 (below_step (by repeat (first | (with_reducible first | exact HB.out | apply below_alloc | apply pw_below_drewN | apply below_drew1 | refine below_set ?_ GE414.out) | exact HB.out)) hb);have n2_ := am0 (hbox);have n3_ := am0 ((by rw [hg];exact (below_size (by repeat (first | (with_reducible first | exact HB.out | apply below_alloc | apply pw_below_drewN | apply below_drew1 | refine below_set ?_ GE414.out) | exact HB.out))) : w.heap.size ≤ gb415));have n4_ := am0 ((by rw [hg];exact (below_size (by repeat (first | (with_reducible first | exact HB.out | apply below_alloc | apply pw_below_drewN | apply below_drew1 | refine below_set ?_ GE414.out) | exact HB.out))) : w.heap.size ≤ gb415));have n5_ := am0 ((by rw [hg];exact Nat.ne_of_lt (blk_lt (g := gb414) (o := .cells #[.int .i64 a0_0, .int .i64 a0_1, .int .u8 a0_2, .int .i64 a0_3, .int .i64 a0_4] 94 (0,0)) (by (with_reducible repeat (first | refine blk_drewN ?_ _ | refine blk_drew ?_ | refine blk_alloc ?_ _));exact BK414.out)) : gb414 ≠ gb415));have n6_ := am0 ((by rw [hg];exact Nat.ne_of_gt (blk_lt (g := gb414) (o := .cells #[.int .i64 a0_0, .int .i64 a0_1, .int .u8 a0_2, .int .i64 a0_3, .int .i64 a0_4] 94 (0,0)) (by (with_reducible repeat (first | refine blk_drewN ?_ _ | refine blk_drew ?_ | refine blk_alloc ?_ _));exact BK414.out)) : gb415 ≠ gb414));clear BK414;clear HB;have BK414 := n0_;have HB := n1_;have BK415 := n2_;have GW415 := n3_;have GE415 := n4_;have NB414_415 := n5_;have NB415_414 := n6_;clear n0_ n1_ n2_ n3_ n4_ n5_ n6_;clear hb hbox hg;have hnb9 := NB414_415.out;have hnc9 := NB415_414.out;have hcz10_0 : w8.cell? ⟨gb414,0,none⟩ = some (.int .i64 a0_0) := (blk_cell BK414.out 0).trans rfl;have hcz10_1 : w8.cell? ⟨gb414,1,none⟩ = some (.int .i64 a0_1) := (blk_cell BK414.out 1).trans rfl;have hcz10_2 : w8.cell? ⟨gb414,2,none⟩ = some (.int .u8 a0_2) := (blk_cell BK414.out 2).trans rfl;have hcz10_3 : w8.cell? ⟨gb414,3,none⟩ = some (.int .i64 a0_3) := (blk_cell BK414.out 3).trans rfl;have hcz10_4 : w8.cell? ⟨gb414,4,none⟩ = some (.int .i64 a0_4) := (blk_cell BK414.out 4).trans rfl;have hfz10_0 := blk_frozen BK414.out 0;have hfz10_1 := blk_frozen BK414.out 1;have hfz10_2 := blk_frozen BK414.out 2;have hfz10_3 := blk_frozen BK414.out 3;have hfz10_4 := blk_frozen BK414.out 4) | ((with_reducible refine gate_callee (f := 81) rfl ?_);refine goesL_ (some 14) rfl rfl Tryd.func81 (by kernel_rfl) rfl #[.int .u8 a0_2] rfl (by (try simp only [List.map_toArray,List.map_cons,List.map_nil]);first | done | rfl | (simp only [List.length_drop,List.length_take];rfl)) ?_;(with_reducible refine (rela_Field.calls k a0_2 t416 t417 _ A4.out).mono ?_);rintro e w' ⟨rfl,⟨nd,rfl⟩⟩;refine ⟨_,rfl, ?_⟩;have hcz11_0 : w8.cell? ⟨gb415,0,none⟩ = some (.string a1_0) := (blk_cell BK415.out 0).trans rfl;have hcz11_1 : w8.cell? ⟨gb415,1,none⟩ = some (.int .i64 a1_1) := (blk_cell BK415.out 1).trans rfl;have hcz11_2 : w8.cell? ⟨gb415,2,none⟩ = some (.slice A1_2 l1_2.length c1_2) := (blk_cell BK415.out 2).trans rfl;have hcz11_3 : w8.cell? ⟨gb415,3,none⟩ = some (.int .i64 a1_3) := (blk_cell BK415.out 3).trans rfl;have hfz11_0 := blk_frozen BK415.out 0;have hfz11_1 := blk_frozen BK415.out 1;have hfz11_2 := blk_frozen BK415.out 2;have hfz11_3 := blk_frozen BK415.out 3) | ((with_reducible refine gate_callee (f := 42) rfl ?_);refine goesL_ (some 20) rfl rfl Tryd.func42 (by kernel_rfl) rfl #[.string a1_0] rfl (by (try simp only [List.map_toArray,List.map_cons,List.map_nil]);first | done | rfl | (simp only [List.length_drop,List.length_take];rfl)) ?_;(with_reducible refine (sect_Kind.calls a1_0 t418 t419 _ A5.out).mono ?_);rintro e w12 ⟨rfl,hb⟩;refine ⟨_,rfl, ?_⟩;have n0_ := am0 (blk_below (g := gb414) (o := .cells #[.int .i64 a0_0, .int .i64 a0_1, .int .u8 a0_2, .int .i64 a0_3, .int .i64 a0_4] 94 (0,0)) (by (with_reducible repeat (first | refine blk_drewN ?_ _ | refine blk_drew ?_ | refine blk_alloc ?_ _));exact BK414.out) hb);have n1_ := am0 (blk_below (g := gb415) (o := .cells #[.string a1_0, .int .i64 a1_1, .slice A1_2 l1_2.length c1_2, .int .i64 a1_3] 72 (0,0)) (by (with_reducible repeat (first | refine blk_drewN ?_ _ | refine blk_drew ?_ | refine blk_alloc ?_ _));exact BK415.out) hb);have n2_ := am0 (below_step (by repeat (first | (with_reducible first | exact HB.out | apply below_alloc | apply pw_below_drewN | apply below_drew1 | refine below_set ?_ GE414.out | refine below_set ?_ GE415.out) | exact HB.out)) hb);clear BK414;clear BK415;clear HB;have BK414 := n0_;have BK415 := n1_;have HB := n2_;clear n0_ n1_ n2_;(try clear hb);(try clear hb2);(try clear hk);(try clear hi);have hcz13_0 : w12.cell? ⟨gb414,0,none⟩ = some (.int .i64 a0_0) := (blk_cell BK414.out 0).trans rfl;have hcz13_1 : w12.cell? ⟨gb414,1,none⟩ = some (.int .i64 a0_1) := (blk_cell BK414.out 1).trans rfl;have hcz13_2 : w12.cell? ⟨gb414,2,none⟩ = some (.int .u8 a0_2) := (blk_cell BK414.out 2).trans rfl;have hcz13_3 : w12.cell? ⟨gb414,3,none⟩ = some (.int .i64 a0_3) := (blk_cell BK414.out 3).trans rfl;have hcz13_4 : w12.cell? ⟨gb414,4,none⟩ = some (.int .i64 a0_4) := (blk_cell BK414.out 4).trans rfl;have hfz13_0 := blk_frozen BK414.out 0;have hfz13_1 := blk_frozen BK414.out 1;have hfz13_2 := blk_frozen BK414.out 2;have hfz13_3 := blk_frozen BK414.out 3;have hfz13_4 := blk_frozen BK414.out 4))
 (try simp only [Act.put,List.setIfInBounds_toArray,List.set_cons_zero,List.set_cons_succ])
 go_cut [7] (fun v7 wc => ∃ (kq : Nat) (x7_5 : Int),v7 = .int .i64 x7_5 ∧ Aside0 (rela_may.j0 kq a2 x7_5 t417 t418 a0_0 a0_1 a0_2 a0_3 a0_4 a1_0 a1_1 l1_2 a1_3 = some r) ∧ Aside0 (kq ≤ k) ∧ Aside0 (wc.heap[gb414]? = some (.cells #[.int .i64 a0_0, .int .i64 a0_1, .int .u8 a0_2, .int .i64 a0_3, .int .i64 a0_4] 94 (0,0))) ∧ Aside0 (wc.heap[gb415]? = some (.cells #[.string a1_0, .int .i64 a1_1,(.slice A1_2 l1_2.length c1_2), .int .i64 a1_3] 72 (0,0))) ∧ Aside0 (Below w.heap.size w wc))
 case first =>
  have H := HC6.out;clear HC6
  by_cases c14 : a0_2 = 43
  ·rw [if_pos c14] at H
   have c14b0 : (a0_2 == 43) = true := beq_iff_eq.mpr c14;have c14b1 : (a0_2 != 43) = false := bne_eq_false_iff_eq.mpr c14;clear c14
   (first | rw [c14b0] | (simp only [i64_w,i32_w];rw [c14b0]) | skip)
   obtain ⟨ji15,hji15⟩ : ∃ j_ : Int,(mx t416 a0_4) = j_ := ⟨_,rfl⟩;replace H : (rela_may.j0 k a2 ji15 t417 t418 a0_0 a0_1 a0_2 a0_3 a0_4 a1_0 a1_1 l1_2 a1_3) = some r := by first | (rw [hji15] at H;exact H) | (simp only [hji15] at H ⊢;exact H)
   have hji15_ : (if t416 < a0_4 then a0_4 else t416) = ji15 := hji15;have H' := am0 H;clear H;have hnb16 := NB414_415.out;have hnc16 := NB415_414.out;have hcz17_0 : w12.cell? ⟨gb414,0,none⟩ = some (.int .i64 a0_0) := (blk_cell BK414.out 0).trans rfl;have hcz17_1 : w12.cell? ⟨gb414,1,none⟩ = some (.int .i64 a0_1) := (blk_cell BK414.out 1).trans rfl;have hcz17_2 : w12.cell? ⟨gb414,2,none⟩ = some (.int .u8 a0_2) := (blk_cell BK414.out 2).trans rfl;have hcz17_3 : w12.cell? ⟨gb414,3,none⟩ = some (.int .i64 a0_3) := (blk_cell BK414.out 3).trans rfl;have hcz17_4 : w12.cell? ⟨gb414,4,none⟩ = some (.int .i64 a0_4) := (blk_cell BK414.out 4).trans rfl;have hfz17_0 := blk_frozen BK414.out 0;have hfz17_1 := blk_frozen BK414.out 1;have hfz17_2 := blk_frozen BK414.out 2;have hfz17_3 := blk_frozen BK414.out 3;have hfz17_4 := blk_frozen BK414.out 4;go_wp2
   go_meet
   case rel => exact ⟨_,(ji15),(by first | rfl | (simp;done) | (simp only [← hji15] <;> (first | rfl | simp)) | (simp [*];done)),H',⟨by first | omega | exact Nat.le_refl _⟩,⟨by (with_reducible repeat (first | refine blk_drewN ?_ _ | refine blk_drew ?_ | refine blk_alloc ?_ _));exact BK414.out⟩,⟨by (with_reducible repeat (first | refine blk_drewN ?_ _ | refine blk_drew ?_ | refine blk_alloc ?_ _));exact BK415.out⟩,⟨by repeat (first | (with_reducible first | exact HB.out | apply below_alloc | apply pw_below_drewN | apply below_drew1 | refine below_set ?_ GE414.out | refine below_set ?_ GE415.out) | exact HB.out)⟩⟩
  rw [if_neg c14] at H;have c14b0 : (a0_2 == 43) = false := beq_eq_false_iff_ne.mpr c14;have c14b1 : (a0_2 != 43) = true := bne_iff_ne.mpr c14
  (first | rw [c14b0] | (simp only [i64_w,i32_w];rw [c14b0]) | skip)
  have H' := am0 H;clear H;go_wp2
  go_meet
  case rel => exact ⟨_,(t416),(by first | rfl | (simp;done) | (simp [*];done)),H',⟨by first | omega | exact Nat.le_refl _⟩,⟨by (with_reducible repeat (first | refine blk_drewN ?_ _ | refine blk_drew ?_ | refine blk_alloc ?_ _));exact BK414.out⟩,⟨by (with_reducible repeat (first | refine blk_drewN ?_ _ | refine blk_drew ?_ | refine blk_alloc ?_ _));exact BK415.out⟩,⟨by repeat (first | (with_reducible first | exact HB.out | apply below_alloc | apply pw_below_drewN | apply below_drew1 | refine below_set ?_ GE414.out | refine below_set ?_ GE415.out) | exact HB.out)⟩⟩
 case rest =>
  clear HC6;try clear c1
  try clear p2
  try clear c4
  try clear c6
  try clear c8
  try clear c9
  try clear c14
  try clear c14b0
  try clear c14b1
  try clear c16
  try clear hcz10_0
  try clear hcz10_1
  try clear hcz10_2
  try clear hcz10_3
  try clear hcz10_4
  try clear hcz11_0
  try clear hcz11_1
  try clear hcz11_2
  try clear hcz11_3
  try clear hcz13_0
  try clear hcz13_1
  try clear hcz13_2
  try clear hcz13_3
  try clear hcz13_4
  try clear hcz17_0
  try clear hcz17_1
  try clear hcz17_2
  try clear hcz17_3
  try clear hcz17_4
  try clear hfz10_0
  try clear hfz10_1
  try clear hfz10_2
  try clear hfz10_3
  try clear hfz10_4
  try clear hfz11_0
  try clear hfz11_1
  try clear hfz11_2
  try clear hfz11_3
  try clear hfz13_0
  try clear hfz13_1
  try clear hfz13_2
  try clear hfz13_3
  try clear hfz13_4
  try clear hfz17_0
  try clear hfz17_1
  try clear hfz17_2
  try clear hfz17_3
  try clear hfz17_4
  obtain ⟨kq,x7_5,rfl,HA,HJ5,BK414,BK415,HB⟩ := hcut
  cases kq with
  | zero => exact absurd HA.out (by simp [rela_may.j0])
  | succ kj5 =>
   have H := HA.out;clear HA;simp only [rela_may.j0] at H;have HC18 := am0 H;clear H;go_upto_region 5 with (fail)
   go_cut [60] (fun v60 wc => ∃ (kq : Nat) (x60_17 : Bool),v60 = .bool x60_17 ∧ Aside0 (rela_may.j1 kq a2 t418 x60_17 a0_0 a0_1 a0_2 a0_3 a0_4 = some r) ∧ Aside0 (kq ≤ kj5) ∧ Aside0 (wc.heap[gb414]? = some (.cells #[.int .i64 a0_0, .int .i64 a0_1, .int .u8 a0_2, .int .i64 a0_3, .int .i64 a0_4] 94 (0,0))) ∧ Aside0 (wc.heap[gb415]? = some (.cells #[.string a1_0, .int .i64 a1_1,(.slice A1_2 l1_2.length c1_2), .int .i64 a1_3] 72 (0,0))) ∧ Aside0 (Below w.heap.size w wc))
   case first =>
    have H := HC18.out;clear HC18
    by_cases c19 : t417 = 0
    ·rw [if_pos c19] at H
     have c19b0 : (t417 == 0) = true := beq_iff_eq.mpr c19;have c19b1 : (t417 != 0) = false := bne_eq_false_iff_eq.mpr c19;clear c19
     (first | rw [c19b0] | (simp only [i64_w,i32_w];rw [c19b0]) | skip)
     by_cases c20 : t418 = 4
     ·rw [if_pos c20] at H
      have c20b0 : (t418 == 4) = true := beq_iff_eq.mpr c20;have c20b1 : (t418 != 4) = false := bne_eq_false_iff_eq.mpr c20;clear c20;have H' := am0 H;clear H;go_wp2
      go_meet
      case rel => exact ⟨_,(true),(by first | rfl | (simp;done) | (simp [*];done)),H',⟨by have := HJ5.out;first | omega | exact Nat.le_refl _⟩,⟨by (with_reducible repeat (first | refine blk_drewN ?_ _ | refine blk_drew ?_ | refine blk_alloc ?_ _));exact BK414.out⟩,⟨by (with_reducible repeat (first | refine blk_drewN ?_ _ | refine blk_drew ?_ | refine blk_alloc ?_ _));exact BK415.out⟩,⟨by repeat (first | (with_reducible first | exact HB.out | apply below_alloc | apply pw_below_drewN | apply below_drew1 | refine below_set ?_ GE414.out | refine below_set ?_ GE415.out) | exact HB.out)⟩⟩
     rw [if_neg c20] at H;have c20b0 : (t418 == 4) = false := beq_eq_false_iff_ne.mpr c20;have c20b1 : (t418 != 4) = true := bne_iff_ne.mpr c20
     by_cases c21 : a0_1 < 0
     ·rw [if_pos c21] at H
      have c21b0 : decide (a0_1 < 0) = true := decide_eq_true c21;clear c21;have H' := am0 H;clear H;have hnb22 := NB414_415.out;have hnc22 := NB415_414.out;have hcz23_0 : wc.cell? ⟨gb414,0,none⟩ = some (.int .i64 a0_0) := (blk_cell BK414.out 0).trans rfl;have hcz23_1 : wc.cell? ⟨gb414,1,none⟩ = some (.int .i64 a0_1) := (blk_cell BK414.out 1).trans rfl;have hcz23_2 : wc.cell? ⟨gb414,2,none⟩ = some (.int .u8 a0_2) := (blk_cell BK414.out 2).trans rfl;have hcz23_3 : wc.cell? ⟨gb414,3,none⟩ = some (.int .i64 a0_3) := (blk_cell BK414.out 3).trans rfl;have hcz23_4 : wc.cell? ⟨gb414,4,none⟩ = some (.int .i64 a0_4) := (blk_cell BK414.out 4).trans rfl;have hfz23_0 := blk_frozen BK414.out 0;have hfz23_1 := blk_frozen BK414.out 1;have hfz23_2 := blk_frozen BK414.out 2;have hfz23_3 := blk_frozen BK414.out 3;have hfz23_4 := blk_frozen BK414.out 4;go_wp2
      go_meet
      case rel => exact ⟨_,(true),(by first | rfl | (simp;done) | (simp [*];done)),H',⟨by have := HJ5.out;first | omega | exact Nat.le_refl _⟩,⟨by (with_reducible repeat (first | refine blk_drewN ?_ _ | refine blk_drew ?_ | refine blk_alloc ?_ _));exact BK414.out⟩,⟨by (with_reducible repeat (first | refine blk_drewN ?_ _ | refine blk_drew ?_ | refine blk_alloc ?_ _));exact BK415.out⟩,⟨by repeat (first | (with_reducible first | exact HB.out | apply below_alloc | apply pw_below_drewN | apply below_drew1 | refine below_set ?_ GE414.out | refine below_set ?_ GE415.out) | exact HB.out)⟩⟩
     rw [if_neg c21] at H;have c21b0 : decide (a0_1 < 0) = false := decide_eq_false c21;clear c21
     by_cases c24 : a0_1 > (wrap64 ((l1_2.length : Int) - x7_5))
     ·rw [if_pos c24] at H
      have c24b0 : decide ((wrap64 ((l1_2.length : Int) - x7_5)) < a0_1) = true := decide_eq_true c24;clear c24;have H' := am0 H;clear H;have hnb25 := NB414_415.out;have hnc25 := NB415_414.out;have hcz26_0 : wc.cell? ⟨gb414,0,none⟩ = some (.int .i64 a0_0) := (blk_cell BK414.out 0).trans rfl;have hcz26_1 : wc.cell? ⟨gb414,1,none⟩ = some (.int .i64 a0_1) := (blk_cell BK414.out 1).trans rfl;have hcz26_2 : wc.cell? ⟨gb414,2,none⟩ = some (.int .u8 a0_2) := (blk_cell BK414.out 2).trans rfl;have hcz26_3 : wc.cell? ⟨gb414,3,none⟩ = some (.int .i64 a0_3) := (blk_cell BK414.out 3).trans rfl;have hcz26_4 : wc.cell? ⟨gb414,4,none⟩ = some (.int .i64 a0_4) := (blk_cell BK414.out 4).trans rfl;have hfz26_0 := blk_frozen BK414.out 0;have hfz26_1 := blk_frozen BK414.out 1;have hfz26_2 := blk_frozen BK414.out 2;have hfz26_3 := blk_frozen BK414.out 3;have hfz26_4 := blk_frozen BK414.out 4;have hcz27_0 : wc.cell? ⟨gb415,0,none⟩ = some (.string a1_0) := (blk_cell BK415.out 0).trans rfl;have hcz27_1 : wc.cell? ⟨gb415,1,none⟩ = some (.int .i64 a1_1) := (blk_cell BK415.out 1).trans rfl;have hcz27_2 : wc.cell? ⟨gb415,2,none⟩ = some (.slice A1_2 l1_2.length c1_2) := (blk_cell BK415.out 2).trans rfl;have hcz27_3 : wc.cell? ⟨gb415,3,none⟩ = some (.int .i64 a1_3) := (blk_cell BK415.out 3).trans rfl;have hfz27_0 := blk_frozen BK415.out 0;have hfz27_1 := blk_frozen BK415.out 1;have hfz27_2 := blk_frozen BK415.out 2;have hfz27_3 := blk_frozen BK415.out 3;go_wp2
      go_meet
      case rel => exact ⟨_,(true),(by first | rfl | (simp;done) | (simp [*];done)),H',⟨by have := HJ5.out;first | omega | exact Nat.le_refl _⟩,⟨by (with_reducible repeat (first | refine blk_drewN ?_ _ | refine blk_drew ?_ | refine blk_alloc ?_ _));exact BK414.out⟩,⟨by (with_reducible repeat (first | refine blk_drewN ?_ _ | refine blk_drew ?_ | refine blk_alloc ?_ _));exact BK415.out⟩,⟨by repeat (first | (with_reducible first | exact HB.out | apply below_alloc | apply pw_below_drewN | apply below_drew1 | refine below_set ?_ GE414.out | refine below_set ?_ GE415.out) | exact HB.out)⟩⟩
     rw [if_neg c24] at H;have c24b0 : decide ((wrap64 ((l1_2.length : Int) - x7_5)) < a0_1) = false := decide_eq_false c24;clear c24
     by_cases c28 : a0_4 < (-2147483648)
     ·rw [if_pos c28] at H
      have c28b0 : decide (a0_4 < (-2147483648)) = true := decide_eq_true c28;clear c28;have H' := am0 H;clear H;have hnb29 := NB414_415.out;have hnc29 := NB415_414.out;have hcz30_0 : wc.cell? ⟨gb414,0,none⟩ = some (.int .i64 a0_0) := (blk_cell BK414.out 0).trans rfl;have hcz30_1 : wc.cell? ⟨gb414,1,none⟩ = some (.int .i64 a0_1) := (blk_cell BK414.out 1).trans rfl;have hcz30_2 : wc.cell? ⟨gb414,2,none⟩ = some (.int .u8 a0_2) := (blk_cell BK414.out 2).trans rfl;have hcz30_3 : wc.cell? ⟨gb414,3,none⟩ = some (.int .i64 a0_3) := (blk_cell BK414.out 3).trans rfl;have hcz30_4 : wc.cell? ⟨gb414,4,none⟩ = some (.int .i64 a0_4) := (blk_cell BK414.out 4).trans rfl;have hfz30_0 := blk_frozen BK414.out 0;have hfz30_1 := blk_frozen BK414.out 1;have hfz30_2 := blk_frozen BK414.out 2;have hfz30_3 := blk_frozen BK414.out 3;have hfz30_4 := blk_frozen BK414.out 4;have hcz31_0 : wc.cell? ⟨gb415,0,none⟩ = some (.string a1_0) := (blk_cell BK415.out 0).trans rfl;have hcz31_1 : wc.cell? ⟨gb415,1,none⟩ = some (.int .i64 a1_1) := (blk_cell BK415.out 1).trans rfl;have hcz31_2 : wc.cell? ⟨gb415,2,none⟩ = some (.slice A1_2 l1_2.length c1_2) := (blk_cell BK415.out 2).trans rfl;have hcz31_3 : wc.cell? ⟨gb415,3,none⟩ = some (.int .i64 a1_3) := (blk_cell BK415.out 3).trans rfl;have hfz31_0 := blk_frozen BK415.out 0;have hfz31_1 := blk_frozen BK415.out 1;have hfz31_2 := blk_frozen BK415.out 2;have hfz31_3 := blk_frozen BK415.out 3;go_wp2
      go_meet
      case rel => exact ⟨_,(true),(by first | rfl | (simp;done) | (simp [*];done)),H',⟨by have := HJ5.out;first | omega | exact Nat.le_refl _⟩,⟨by (with_reducible repeat (first | refine blk_drewN ?_ _ | refine blk_drew ?_ | refine blk_alloc ?_ _));exact BK414.out⟩,⟨by (with_reducible repeat (first | refine blk_drewN ?_ _ | refine blk_drew ?_ | refine blk_alloc ?_ _));exact BK415.out⟩,⟨by repeat (first | (with_reducible first | exact HB.out | apply below_alloc | apply pw_below_drewN | apply below_drew1 | refine below_set ?_ GE414.out | refine below_set ?_ GE415.out) | exact HB.out)⟩⟩
     rw [if_neg c28] at H;have c28b0 : decide (a0_4 < (-2147483648)) = false := decide_eq_false c28;clear c28;have H' := am0 H;clear H;have hnb32 := NB414_415.out;have hnc32 := NB415_414.out;have hcz33_0 : wc.cell? ⟨gb414,0,none⟩ = some (.int .i64 a0_0) := (blk_cell BK414.out 0).trans rfl;have hcz33_1 : wc.cell? ⟨gb414,1,none⟩ = some (.int .i64 a0_1) := (blk_cell BK414.out 1).trans rfl;have hcz33_2 : wc.cell? ⟨gb414,2,none⟩ = some (.int .u8 a0_2) := (blk_cell BK414.out 2).trans rfl;have hcz33_3 : wc.cell? ⟨gb414,3,none⟩ = some (.int .i64 a0_3) := (blk_cell BK414.out 3).trans rfl;have hcz33_4 : wc.cell? ⟨gb414,4,none⟩ = some (.int .i64 a0_4) := (blk_cell BK414.out 4).trans rfl;have hfz33_0 := blk_frozen BK414.out 0;have hfz33_1 := blk_frozen BK414.out 1;have hfz33_2 := blk_frozen BK414.out 2;have hfz33_3 := blk_frozen BK414.out 3;have hfz33_4 := blk_frozen BK414.out 4;have hcz34_0 : wc.cell? ⟨gb415,0,none⟩ = some (.string a1_0) := (blk_cell BK415.out 0).trans rfl;have hcz34_1 : wc.cell? ⟨gb415,1,none⟩ = some (.int .i64 a1_1) := (blk_cell BK415.out 1).trans rfl;have hcz34_2 : wc.cell? ⟨gb415,2,none⟩ = some (.slice A1_2 l1_2.length c1_2) := (blk_cell BK415.out 2).trans rfl;have hcz34_3 : wc.cell? ⟨gb415,3,none⟩ = some (.int .i64 a1_3) := (blk_cell BK415.out 3).trans rfl;have hfz34_0 := blk_frozen BK415.out 0;have hfz34_1 := blk_frozen BK415.out 1;have hfz34_2 := blk_frozen BK415.out 2;have hfz34_3 := blk_frozen BK415.out 3;go_wp2
     go_meet
     case rel => exact ⟨_,(decide (a0_4 > 4294967295)),(by first | rfl | (simp;done) | (simp [*];done)),H',⟨by have := HJ5.out;first | omega | exact Nat.le_refl _⟩,⟨by (with_reducible repeat (first | refine blk_drewN ?_ _ | refine blk_drew ?_ | refine blk_alloc ?_ _));exact BK414.out⟩,⟨by (with_reducible repeat (first | refine blk_drewN ?_ _ | refine blk_drew ?_ | refine blk_alloc ?_ _));exact BK415.out⟩,⟨by repeat (first | (with_reducible first | exact HB.out | apply below_alloc | apply pw_below_drewN | apply below_drew1 | refine below_set ?_ GE414.out | refine below_set ?_ GE415.out) | exact HB.out)⟩⟩
    rw [if_neg c19] at H;have c19b0 : (t417 == 0) = false := beq_eq_false_iff_ne.mpr c19;have c19b1 : (t417 != 0) = true := bne_iff_ne.mpr c19
    (first | rw [c19b0] | (simp only [i64_w,i32_w];rw [c19b0]) | skip)
    have H' := am0 H;clear H;go_wp2
    go_meet
    case rel => exact ⟨_,(true),(by first | rfl | (simp;done) | (simp [*];done)),H',⟨by have := HJ5.out;first | omega | exact Nat.le_refl _⟩,⟨by (with_reducible repeat (first | refine blk_drewN ?_ _ | refine blk_drew ?_ | refine blk_alloc ?_ _));exact BK414.out⟩,⟨by (with_reducible repeat (first | refine blk_drewN ?_ _ | refine blk_drew ?_ | refine blk_alloc ?_ _));exact BK415.out⟩,⟨by repeat (first | (with_reducible first | exact HB.out | apply below_alloc | apply pw_below_drewN | apply below_drew1 | refine below_set ?_ GE414.out | refine below_set ?_ GE415.out) | exact HB.out)⟩⟩
   case rest =>
    clear HC18;try clear c1
    try clear c2
    try clear p2
    try clear c3
    try clear c4
    try clear c6
    try clear p6
    try clear c8
    try clear c9
    try clear c14
    try clear c14b0
    try clear c14b1
    try clear c16
    try clear c19
    try clear c19b0
    try clear c19b1
    try clear c20
    try clear c20b0
    try clear c20b1
    try clear c21
    try clear c21b0
    try clear c22
    try clear c24
    try clear c24b0
    try clear c25
    try clear c28
    try clear c28b0
    try clear c29
    try clear c32
    try clear hcz10_0
    try clear hcz10_1
    try clear hcz10_2
    try clear hcz10_3
    try clear hcz10_4
    try clear hcz11_0
    try clear hcz11_1
    try clear hcz11_2
    try clear hcz11_3
    try clear hcz13_0
    try clear hcz13_1
    try clear hcz13_2
    try clear hcz13_3
    try clear hcz13_4
    try clear hcz17_0
    try clear hcz17_1
    try clear hcz17_2
    try clear hcz17_3
    try clear hcz17_4
    try clear hcz23_0
    try clear hcz23_1
    try clear hcz23_2
    try clear hcz23_3
    try clear hcz23_4
    try clear hcz26_0
    try clear hcz26_1
    try clear hcz26_2
    try clear hcz26_3
    try clear hcz26_4
    try clear hcz27_0
    try clear hcz27_1
    try clear hcz27_2
    try clear hcz27_3
    try clear hcz30_0
    try clear hcz30_1
    try clear hcz30_2
    try clear hcz30_3
    try clear hcz30_4
    try clear hcz31_0
    try clear hcz31_1
    try clear hcz31_2
    try clear hcz31_3
    try clear hcz33_0
    try clear hcz33_1
    try clear hcz33_2
    try clear hcz33_3
    try clear hcz33_4
    try clear hcz34_0
    try clear hcz34_1
    try clear hcz34_2
    try clear hcz34_3
    try clear hfz10_0
    try clear hfz10_1
    try clear hfz10_2
    try clear hfz10_3
    try clear hfz10_4
    try clear hfz11_0
    try clear hfz11_1
    try clear hfz11_2
    try clear hfz11_3
    try clear hfz13_0
    try clear hfz13_1
    try clear hfz13_2
    try clear hfz13_3
    try clear hfz13_4
    try clear hfz17_0
    try clear hfz17_1
    try clear hfz17_2
    try clear hfz17_3
    try clear hfz17_4
    try clear hfz23_0
    try clear hfz23_1
    try clear hfz23_2
    try clear hfz23_3
    try clear hfz23_4
    try clear hfz26_0
    try clear hfz26_1
    try clear hfz26_2
    try clear hfz26_3
    try clear hfz26_4
    try clear hfz27_0
    try clear hfz27_1
    try clear hfz27_2
    try clear hfz27_3
    try clear hfz30_0
    try clear hfz30_1
    try clear hfz30_2
    try clear hfz30_3
    try clear hfz30_4
    try clear hfz31_0
    try clear hfz31_1
    try clear hfz31_2
    try clear hfz31_3
    try clear hfz33_0
    try clear hfz33_1
    try clear hfz33_2
    try clear hfz33_3
    try clear hfz33_4
    try clear hfz34_0
    try clear hfz34_1
    try clear hfz34_2
    try clear hfz34_3
    try clear p2
    obtain ⟨kq,x60_17,rfl,HA,HJ17,BK414,BK415,HB⟩ := hcut
    cases kq with
    | zero => exact absurd HA.out (by simp [rela_may.j1])
    | succ kj17 =>
     have H := HA.out;clear HA;simp only [rela_may.j1] at H
     by_cases c35 : x60_17 = true
     ·subst c35
      have H1 : (some false) = some r := by rw [if_pos rfl] at H;exact H
      clear H;have H := H1;clear H1;obtain rfl := Option.some.inj H;go_wp2
      go_ret
      exact ⟨by first | rfl | (simp [errW_none,errW_some] <;> rfl) | (simp [*,errW_none,errW_some] <;> rfl),by repeat (first | (with_reducible first | exact HB.out | apply below_alloc | apply pw_below_drewN | apply below_drew1 | refine below_set ?_ GE414.out | refine below_set ?_ GE415.out) | exact HB.out)⟩
     replace c35 := Bool.eq_false_iff.mpr c35;subst c35;have H1 : ((rela_set_has.f 2190433320966 a0_2).bind fun t420 => (if t420 = true then (rela_may.j2 kj17 a2 false a0_0 a0_1 a0_2 a0_3 a0_4) else (if t418 = 1 then (rela_may.j2 kj17 a2 ((Go.bits .and .i64 a0_1 1) == 1) a0_0 a0_1 a0_2 a0_3 a0_4) else (rela_may.j2 kj17 a2 true a0_0 a0_1 a0_2 a0_3 a0_4)))) = some r := by rw [if_neg (show ¬ (false = true) by decide)] at H;exact H
     clear H;have H := H1;clear H1;have HC36 := am0 H;clear H;go_upto_region 7 with (fail)
     go_cut [74] (fun v74 wc => ∃ (kq : Nat) (x74_35 : Bool),v74 = .bool x74_35 ∧ Aside0 (rela_may.j2 kq a2 x74_35 a0_0 a0_1 a0_2 a0_3 a0_4 = some r) ∧ Aside0 (kq ≤ kj17) ∧ Aside0 (wc.heap[gb414]? = some (.cells #[.int .i64 a0_0, .int .i64 a0_1, .int .u8 a0_2, .int .i64 a0_3, .int .i64 a0_4] 94 (0,0))) ∧ Aside0 (wc.heap[gb415]? = some (.cells #[.string a1_0, .int .i64 a1_1,(.slice A1_2 l1_2.length c1_2), .int .i64 a1_3] 72 (0,0))) ∧ Aside0 (Below w.heap.size w wc))
     case first =>
      have H := HC36.out;clear HC36;replace H := Option.bind_eq_some_iff.mp H;obtain ⟨t420,A370,H⟩ := H;replace H : (if t420 = true then (rela_may.j2 kj17 a2 false a0_0 a0_1 a0_2 a0_3 a0_4) else (if t418 = 1 then (rela_may.j2 kj17 a2 ((Go.bits .and .i64 a0_1 1) == 1) a0_0 a0_1 a0_2 a0_3 a0_4) else (rela_may.j2 kj17 a2 true a0_0 a0_1 a0_2 a0_3 a0_4))) = some r := H;have A37 := am0 A370;clear A370
      by_cases c38 : t420 = true
      ·subst c38
       have H1 : (rela_may.j2 kj17 a2 false a0_0 a0_1 a0_2 a0_3 a0_4) = some r := by rw [if_pos rfl] at H;exact H
       clear H;have H := H1;clear H1;have H' := am0 H;clear H;have hnb39 := NB414_415.out;have hnc39 := NB415_414.out;have hcz40_0 : wc.cell? ⟨gb414,0,none⟩ = some (.int .i64 a0_0) := (blk_cell BK414.out 0).trans rfl;have hcz40_1 : wc.cell? ⟨gb414,1,none⟩ = some (.int .i64 a0_1) := (blk_cell BK414.out 1).trans rfl;have hcz40_2 : wc.cell? ⟨gb414,2,none⟩ = some (.int .u8 a0_2) := (blk_cell BK414.out 2).trans rfl;have hcz40_3 : wc.cell? ⟨gb414,3,none⟩ = some (.int .i64 a0_3) := (blk_cell BK414.out 3).trans rfl;have hcz40_4 : wc.cell? ⟨gb414,4,none⟩ = some (.int .i64 a0_4) := (blk_cell BK414.out 4).trans rfl;have hfz40_0 := blk_frozen BK414.out 0;have hfz40_1 := blk_frozen BK414.out 1;have hfz40_2 := blk_frozen BK414.out 2;have hfz40_3 := blk_frozen BK414.out 3;have hfz40_4 := blk_frozen BK414.out 4;go_wp2_with (first | ((with_reducible refine gate_callee (f := 82) rfl ?_);refine goesL_ (some 63) rfl rfl Tryd.func82 (by kernel_rfl) rfl #[.int .u64 2190433320966, .int .u8 a0_2] rfl (by (try simp only [List.map_toArray,List.map_cons,List.map_nil]);first | done | rfl | (simp only [List.length_drop,List.length_take];rfl)) ?_;(with_reducible refine (rela_set_has.calls 2190433320966 a0_2 true _ A37.out).mono ?_);rintro e w' ⟨rfl,⟨nd,rfl⟩⟩;refine ⟨_,rfl, ?_⟩))
       go_meet
       case rel => exact ⟨_,(false),(by first | rfl | (simp;done) | (simp [*];done)),H',⟨by have := HJ5.out;have := HJ17.out;first | omega | exact Nat.le_refl _⟩,⟨by (with_reducible repeat (first | refine blk_drewN ?_ _ | refine blk_drew ?_ | refine blk_alloc ?_ _));exact BK414.out⟩,⟨by (with_reducible repeat (first | refine blk_drewN ?_ _ | refine blk_drew ?_ | refine blk_alloc ?_ _));exact BK415.out⟩,⟨by repeat (first | (with_reducible first | exact HB.out | apply below_alloc | apply pw_below_drewN | apply below_drew1 | refine below_set ?_ GE414.out | refine below_set ?_ GE415.out) | exact HB.out)⟩⟩
      replace c38 := Bool.eq_false_iff.mpr c38;subst c38;have H1 : (if t418 = 1 then (rela_may.j2 kj17 a2 ((Go.bits .and .i64 a0_1 1) == 1) a0_0 a0_1 a0_2 a0_3 a0_4) else (rela_may.j2 kj17 a2 true a0_0 a0_1 a0_2 a0_3 a0_4)) = some r := by rw [if_neg (show ¬ (false = true) by decide)] at H;exact H
      clear H;have H := H1;clear H1
      by_cases c41 : t418 = 1
      ·rw [if_pos c41] at H
       have c41b0 : (t418 == 1) = true := beq_iff_eq.mpr c41;have c41b1 : (t418 != 1) = false := bne_eq_false_iff_eq.mpr c41;clear c41
       (first | rw [c41b0] | (simp only [i64_w,i32_w];rw [c41b0]) | skip)
       have H' := am0 H;clear H;have hnb42 := NB414_415.out;have hnc42 := NB415_414.out;have hcz43_0 : wc.cell? ⟨gb414,0,none⟩ = some (.int .i64 a0_0) := (blk_cell BK414.out 0).trans rfl;have hcz43_1 : wc.cell? ⟨gb414,1,none⟩ = some (.int .i64 a0_1) := (blk_cell BK414.out 1).trans rfl;have hcz43_2 : wc.cell? ⟨gb414,2,none⟩ = some (.int .u8 a0_2) := (blk_cell BK414.out 2).trans rfl;have hcz43_3 : wc.cell? ⟨gb414,3,none⟩ = some (.int .i64 a0_3) := (blk_cell BK414.out 3).trans rfl;have hcz43_4 : wc.cell? ⟨gb414,4,none⟩ = some (.int .i64 a0_4) := (blk_cell BK414.out 4).trans rfl;have hfz43_0 := blk_frozen BK414.out 0;have hfz43_1 := blk_frozen BK414.out 1;have hfz43_2 := blk_frozen BK414.out 2;have hfz43_3 := blk_frozen BK414.out 3;have hfz43_4 := blk_frozen BK414.out 4;go_wp2_with (first | ((with_reducible refine gate_callee (f := 82) rfl ?_);refine goesL_ (some 63) rfl rfl Tryd.func82 (by kernel_rfl) rfl #[.int .u64 2190433320966, .int .u8 a0_2] rfl (by (try simp only [List.map_toArray,List.map_cons,List.map_nil]);first | done | rfl | (simp only [List.length_drop,List.length_take];rfl)) ?_;(with_reducible refine (rela_set_has.calls 2190433320966 a0_2 false _ A37.out).mono ?_);rintro e w' ⟨rfl,⟨nd,rfl⟩⟩;refine ⟨_,rfl, ?_⟩))
       go_meet
       case rel => exact ⟨_,(((Go.bits .and .i64 a0_1 1) == 1)),(by first | rfl | (simp;done) | (simp [*];done)),H',⟨by have := HJ5.out;have := HJ17.out;first | omega | exact Nat.le_refl _⟩,⟨by (with_reducible repeat (first | refine blk_drewN ?_ _ | refine blk_drew ?_ | refine blk_alloc ?_ _));exact BK414.out⟩,⟨by (with_reducible repeat (first | refine blk_drewN ?_ _ | refine blk_drew ?_ | refine blk_alloc ?_ _));exact BK415.out⟩,⟨by repeat (first | (with_reducible first | exact HB.out | apply below_alloc | apply pw_below_drewN | apply below_drew1 | refine below_set ?_ GE414.out | refine below_set ?_ GE415.out) | exact HB.out)⟩⟩
      rw [if_neg c41] at H;have c41b0 : (t418 == 1) = false := beq_eq_false_iff_ne.mpr c41;have c41b1 : (t418 != 1) = true := bne_iff_ne.mpr c41
      (first | rw [c41b0] | (simp only [i64_w,i32_w];rw [c41b0]) | skip)
      have H' := am0 H;clear H;have hnb44 := NB414_415.out;have hnc44 := NB415_414.out;have hcz45_0 : wc.cell? ⟨gb414,0,none⟩ = some (.int .i64 a0_0) := (blk_cell BK414.out 0).trans rfl;have hcz45_1 : wc.cell? ⟨gb414,1,none⟩ = some (.int .i64 a0_1) := (blk_cell BK414.out 1).trans rfl;have hcz45_2 : wc.cell? ⟨gb414,2,none⟩ = some (.int .u8 a0_2) := (blk_cell BK414.out 2).trans rfl;have hcz45_3 : wc.cell? ⟨gb414,3,none⟩ = some (.int .i64 a0_3) := (blk_cell BK414.out 3).trans rfl;have hcz45_4 : wc.cell? ⟨gb414,4,none⟩ = some (.int .i64 a0_4) := (blk_cell BK414.out 4).trans rfl;have hfz45_0 := blk_frozen BK414.out 0;have hfz45_1 := blk_frozen BK414.out 1;have hfz45_2 := blk_frozen BK414.out 2;have hfz45_3 := blk_frozen BK414.out 3;have hfz45_4 := blk_frozen BK414.out 4;go_wp2_with (first | ((with_reducible refine gate_callee (f := 82) rfl ?_);refine goesL_ (some 63) rfl rfl Tryd.func82 (by kernel_rfl) rfl #[.int .u64 2190433320966, .int .u8 a0_2] rfl (by (try simp only [List.map_toArray,List.map_cons,List.map_nil]);first | done | rfl | (simp only [List.length_drop,List.length_take];rfl)) ?_;(with_reducible refine (rela_set_has.calls 2190433320966 a0_2 false _ A37.out).mono ?_);rintro e w' ⟨rfl,⟨nd,rfl⟩⟩;refine ⟨_,rfl, ?_⟩))
      go_meet
      case rel => exact ⟨_,(true),(by first | rfl | (simp;done) | (simp [*];done)),H',⟨by have := HJ5.out;have := HJ17.out;first | omega | exact Nat.le_refl _⟩,⟨by (with_reducible repeat (first | refine blk_drewN ?_ _ | refine blk_drew ?_ | refine blk_alloc ?_ _));exact BK414.out⟩,⟨by (with_reducible repeat (first | refine blk_drewN ?_ _ | refine blk_drew ?_ | refine blk_alloc ?_ _));exact BK415.out⟩,⟨by repeat (first | (with_reducible first | exact HB.out | apply below_alloc | apply pw_below_drewN | apply below_drew1 | refine below_set ?_ GE414.out | refine below_set ?_ GE415.out) | exact HB.out)⟩⟩
     case rest =>
      clear HC36;try clear c1
      try clear c2
      try clear p2
      try clear c3
      try clear c4
      try clear c6
      try clear p6
      try clear c8
      try clear c9
      try clear c14
      try clear c14b0
      try clear c14b1
      try clear c16
      try clear c19
      try clear c19b0
      try clear c19b1
      try clear c20
      try clear c20b0
      try clear c20b1
      try clear c21
      try clear c21b0
      try clear c22
      try clear c24
      try clear c24b0
      try clear c25
      try clear c28
      try clear c28b0
      try clear c29
      try clear c32
      try clear c35
      try clear c38
      try clear c39
      try clear c41
      try clear c41b0
      try clear c41b1
      try clear c42
      try clear c44
      try clear hcz10_0
      try clear hcz10_1
      try clear hcz10_2
      try clear hcz10_3
      try clear hcz10_4
      try clear hcz11_0
      try clear hcz11_1
      try clear hcz11_2
      try clear hcz11_3
      try clear hcz13_0
      try clear hcz13_1
      try clear hcz13_2
      try clear hcz13_3
      try clear hcz13_4
      try clear hcz17_0
      try clear hcz17_1
      try clear hcz17_2
      try clear hcz17_3
      try clear hcz17_4
      try clear hcz23_0
      try clear hcz23_1
      try clear hcz23_2
      try clear hcz23_3
      try clear hcz23_4
      try clear hcz26_0
      try clear hcz26_1
      try clear hcz26_2
      try clear hcz26_3
      try clear hcz26_4
      try clear hcz27_0
      try clear hcz27_1
      try clear hcz27_2
      try clear hcz27_3
      try clear hcz30_0
      try clear hcz30_1
      try clear hcz30_2
      try clear hcz30_3
      try clear hcz30_4
      try clear hcz31_0
      try clear hcz31_1
      try clear hcz31_2
      try clear hcz31_3
      try clear hcz33_0
      try clear hcz33_1
      try clear hcz33_2
      try clear hcz33_3
      try clear hcz33_4
      try clear hcz34_0
      try clear hcz34_1
      try clear hcz34_2
      try clear hcz34_3
      try clear hcz40_0
      try clear hcz40_1
      try clear hcz40_2
      try clear hcz40_3
      try clear hcz40_4
      try clear hcz43_0
      try clear hcz43_1
      try clear hcz43_2
      try clear hcz43_3
      try clear hcz43_4
      try clear hcz45_0
      try clear hcz45_1
      try clear hcz45_2
      try clear hcz45_3
      try clear hcz45_4
      try clear hfz10_0
      try clear hfz10_1
      try clear hfz10_2
      try clear hfz10_3
      try clear hfz10_4
      try clear hfz11_0
      try clear hfz11_1
      try clear hfz11_2
      try clear hfz11_3
      try clear hfz13_0
      try clear hfz13_1
      try clear hfz13_2
      try clear hfz13_3
      try clear hfz13_4
      try clear hfz17_0
      try clear hfz17_1
      try clear hfz17_2
      try clear hfz17_3
      try clear hfz17_4
      try clear hfz23_0
      try clear hfz23_1
      try clear hfz23_2
      try clear hfz23_3
      try clear hfz23_4
      try clear hfz26_0
      try clear hfz26_1
      try clear hfz26_2
      try clear hfz26_3
      try clear hfz26_4
      try clear hfz27_0
      try clear hfz27_1
      try clear hfz27_2
      try clear hfz27_3
      try clear hfz30_0
      try clear hfz30_1
      try clear hfz30_2
      try clear hfz30_3
      try clear hfz30_4
      try clear hfz31_0
      try clear hfz31_1
      try clear hfz31_2
      try clear hfz31_3
      try clear hfz33_0
      try clear hfz33_1
      try clear hfz33_2
      try clear hfz33_3
      try clear hfz33_4
      try clear hfz34_0
      try clear hfz34_1
      try clear hfz34_2
      try clear hfz34_3
      try clear hfz40_0
      try clear hfz40_1
      try clear hfz40_2
      try clear hfz40_3
      try clear hfz40_4
      try clear hfz43_0
      try clear hfz43_1
      try clear hfz43_2
      try clear hfz43_3
      try clear hfz43_4
      try clear hfz45_0
      try clear hfz45_1
      try clear hfz45_2
      try clear hfz45_3
      try clear hfz45_4
      try clear p2
      try clear p6
      obtain ⟨kq,x74_35,rfl,HA,HJ35,BK414,BK415,HB⟩ := hcut
      cases kq with
      | zero => exact absurd HA.out (by simp [rela_may.j2])
      | succ kj35 =>
       have H := HA.out;clear HA;simp only [rela_may.j2] at H
       by_cases c46 : x74_35 = true
       ·subst c46
        have H1 : (some false) = some r := by rw [if_pos rfl] at H;exact H
        clear H;have H := H1;clear H1;obtain rfl := Option.some.inj H;go_wp2
        go_ret
        exact ⟨by first | rfl | (simp [errW_none,errW_some] <;> rfl) | (simp [*,errW_none,errW_some] <;> rfl),by repeat (first | (with_reducible first | exact HB.out | apply below_alloc | apply pw_below_drewN | apply below_drew1 | refine below_set ?_ GE414.out | refine below_set ?_ GE415.out) | exact HB.out)⟩
       replace c46 := Bool.eq_false_iff.mpr c46;subst c46;have H1 : ((rela_set_has.f 2251799864016896 a0_2).bind fun t421 => (if t421 = true then (if a0_4 = 0 then (if a0_2 = 43 then (if a0_4 < 0 then (rela_may.j3 kj35 a2 true a0_0 a0_1 a0_2 a0_3 a0_4) else (if a0_4 > 62 then (rela_may.j3 kj35 a2 true a0_0 a0_1 a0_2 a0_3 a0_4) else (rela_may.j3 kj35 a2 ((Go.bits .and .i64 a0_4 1) == 1) a0_0 a0_1 a0_2 a0_3 a0_4))) else (rela_may.j3 kj35 a2 false a0_0 a0_1 a0_2 a0_3 a0_4)) else (rela_may.j3 kj35 a2 true a0_0 a0_1 a0_2 a0_3 a0_4)) else (if a0_2 = 43 then (if a0_4 < 0 then (rela_may.j3 kj35 a2 true a0_0 a0_1 a0_2 a0_3 a0_4) else (if a0_4 > 62 then (rela_may.j3 kj35 a2 true a0_0 a0_1 a0_2 a0_3 a0_4) else (rela_may.j3 kj35 a2 ((Go.bits .and .i64 a0_4 1) == 1) a0_0 a0_1 a0_2 a0_3 a0_4))) else (rela_may.j3 kj35 a2 false a0_0 a0_1 a0_2 a0_3 a0_4)))) = some r := by rw [if_neg (show ¬ (false = true) by decide)] at H;exact H
       clear H;have H := H1;clear H1;have HC47 := am0 H;clear H;go_upto_region 9 with (fail)
       go_cut [103] (fun v103 wc => ∃ (kq : Nat) (x103_46 : Bool),v103 = .bool x103_46 ∧ Aside0 (rela_may.j3 kq a2 x103_46 a0_0 a0_1 a0_2 a0_3 a0_4 = some r) ∧ Aside0 (kq ≤ kj35) ∧ Aside0 (wc.heap[gb414]? = some (.cells #[.int .i64 a0_0, .int .i64 a0_1, .int .u8 a0_2, .int .i64 a0_3, .int .i64 a0_4] 94 (0,0))) ∧ Aside0 (wc.heap[gb415]? = some (.cells #[.string a1_0, .int .i64 a1_1,(.slice A1_2 l1_2.length c1_2), .int .i64 a1_3] 72 (0,0))) ∧ Aside0 (Below w.heap.size w wc))
       case first =>
        have H := HC47.out;clear HC47;replace H := Option.bind_eq_some_iff.mp H;obtain ⟨t421,A480,H⟩ := H;replace H : (if t421 = true then (if a0_4 = 0 then (if a0_2 = 43 then (if a0_4 < 0 then (rela_may.j3 kj35 a2 true a0_0 a0_1 a0_2 a0_3 a0_4) else (if a0_4 > 62 then (rela_may.j3 kj35 a2 true a0_0 a0_1 a0_2 a0_3 a0_4) else (rela_may.j3 kj35 a2 ((Go.bits .and .i64 a0_4 1) == 1) a0_0 a0_1 a0_2 a0_3 a0_4))) else (rela_may.j3 kj35 a2 false a0_0 a0_1 a0_2 a0_3 a0_4)) else (rela_may.j3 kj35 a2 true a0_0 a0_1 a0_2 a0_3 a0_4)) else (if a0_2 = 43 then (if a0_4 < 0 then (rela_may.j3 kj35 a2 true a0_0 a0_1 a0_2 a0_3 a0_4) else (if a0_4 > 62 then (rela_may.j3 kj35 a2 true a0_0 a0_1 a0_2 a0_3 a0_4) else (rela_may.j3 kj35 a2 ((Go.bits .and .i64 a0_4 1) == 1) a0_0 a0_1 a0_2 a0_3 a0_4))) else (rela_may.j3 kj35 a2 false a0_0 a0_1 a0_2 a0_3 a0_4))) = some r := H;have A48 := am0 A480;clear A480
        by_cases c49 : t421 = true
        ·subst c49
         have H1 : (if a0_4 = 0 then (if a0_2 = 43 then (if a0_4 < 0 then (rela_may.j3 kj35 a2 true a0_0 a0_1 a0_2 a0_3 a0_4) else (if a0_4 > 62 then (rela_may.j3 kj35 a2 true a0_0 a0_1 a0_2 a0_3 a0_4) else (rela_may.j3 kj35 a2 ((Go.bits .and .i64 a0_4 1) == 1) a0_0 a0_1 a0_2 a0_3 a0_4))) else (rela_may.j3 kj35 a2 false a0_0 a0_1 a0_2 a0_3 a0_4)) else (rela_may.j3 kj35 a2 true a0_0 a0_1 a0_2 a0_3 a0_4)) = some r := by rw [if_pos rfl] at H;exact H
         clear H;have H := H1;clear H1
         by_cases c50 : a0_4 = 0
         ·rw [if_pos c50] at H
          have c50b0 : (a0_4 == 0) = true := beq_iff_eq.mpr c50;have c50b1 : (a0_4 != 0) = false := bne_eq_false_iff_eq.mpr c50;clear c50
          (first | rw [c50b0] | (simp only [i64_w,i32_w];rw [c50b0]) | skip)
          by_cases c51 : a0_2 = 43
          ·rw [if_pos c51] at H
           have c51b0 : (a0_2 == 43) = true := beq_iff_eq.mpr c51;have c51b1 : (a0_2 != 43) = false := bne_eq_false_iff_eq.mpr c51;clear c51
           by_cases c52 : a0_4 < 0
           ·rw [if_pos c52] at H
            have c52b0 : decide (a0_4 < 0) = true := decide_eq_true c52;clear c52;have H' := am0 H;clear H;have hnb53 := NB414_415.out;have hnc53 := NB415_414.out;have hcz54_0 : wc.cell? ⟨gb414,0,none⟩ = some (.int .i64 a0_0) := (blk_cell BK414.out 0).trans rfl;have hcz54_1 : wc.cell? ⟨gb414,1,none⟩ = some (.int .i64 a0_1) := (blk_cell BK414.out 1).trans rfl;have hcz54_2 : wc.cell? ⟨gb414,2,none⟩ = some (.int .u8 a0_2) := (blk_cell BK414.out 2).trans rfl;have hcz54_3 : wc.cell? ⟨gb414,3,none⟩ = some (.int .i64 a0_3) := (blk_cell BK414.out 3).trans rfl;have hcz54_4 : wc.cell? ⟨gb414,4,none⟩ = some (.int .i64 a0_4) := (blk_cell BK414.out 4).trans rfl;have hfz54_0 := blk_frozen BK414.out 0;have hfz54_1 := blk_frozen BK414.out 1;have hfz54_2 := blk_frozen BK414.out 2;have hfz54_3 := blk_frozen BK414.out 3;have hfz54_4 := blk_frozen BK414.out 4;go_wp2_with (first | ((with_reducible refine gate_callee (f := 82) rfl ?_);refine goesL_ (some 77) rfl rfl Tryd.func82 (by kernel_rfl) rfl #[.int .u64 2251799864016896, .int .u8 a0_2] rfl (by (try simp only [List.map_toArray,List.map_cons,List.map_nil]);first | done | rfl | (simp only [List.length_drop,List.length_take];rfl)) ?_;(with_reducible refine (rela_set_has.calls 2251799864016896 a0_2 true _ A48.out).mono ?_);rintro e w' ⟨rfl,⟨nd,rfl⟩⟩;refine ⟨_,rfl, ?_⟩))
            go_meet
            case rel => exact ⟨_,(true),(by first | rfl | (simp;done) | (simp [*];done)),H',⟨by have := HJ5.out;have := HJ17.out;have := HJ35.out;first | omega | exact Nat.le_refl _⟩,⟨by (with_reducible repeat (first | refine blk_drewN ?_ _ | refine blk_drew ?_ | refine blk_alloc ?_ _));exact BK414.out⟩,⟨by (with_reducible repeat (first | refine blk_drewN ?_ _ | refine blk_drew ?_ | refine blk_alloc ?_ _));exact BK415.out⟩,⟨by repeat (first | (with_reducible first | exact HB.out | apply below_alloc | apply pw_below_drewN | apply below_drew1 | refine below_set ?_ GE414.out | refine below_set ?_ GE415.out) | exact HB.out)⟩⟩
           rw [if_neg c52] at H;have c52b0 : decide (a0_4 < 0) = false := decide_eq_false c52;clear c52
           by_cases c55 : a0_4 > 62
           ·rw [if_pos c55] at H
            have c55b0 : decide (62 < a0_4) = true := decide_eq_true c55;clear c55;have H' := am0 H;clear H;have hnb56 := NB414_415.out;have hnc56 := NB415_414.out;have hcz57_0 : wc.cell? ⟨gb414,0,none⟩ = some (.int .i64 a0_0) := (blk_cell BK414.out 0).trans rfl;have hcz57_1 : wc.cell? ⟨gb414,1,none⟩ = some (.int .i64 a0_1) := (blk_cell BK414.out 1).trans rfl;have hcz57_2 : wc.cell? ⟨gb414,2,none⟩ = some (.int .u8 a0_2) := (blk_cell BK414.out 2).trans rfl;have hcz57_3 : wc.cell? ⟨gb414,3,none⟩ = some (.int .i64 a0_3) := (blk_cell BK414.out 3).trans rfl;have hcz57_4 : wc.cell? ⟨gb414,4,none⟩ = some (.int .i64 a0_4) := (blk_cell BK414.out 4).trans rfl;have hfz57_0 := blk_frozen BK414.out 0;have hfz57_1 := blk_frozen BK414.out 1;have hfz57_2 := blk_frozen BK414.out 2;have hfz57_3 := blk_frozen BK414.out 3;have hfz57_4 := blk_frozen BK414.out 4;go_wp2_with (first | ((with_reducible refine gate_callee (f := 82) rfl ?_);refine goesL_ (some 77) rfl rfl Tryd.func82 (by kernel_rfl) rfl #[.int .u64 2251799864016896, .int .u8 a0_2] rfl (by (try simp only [List.map_toArray,List.map_cons,List.map_nil]);first | done | rfl | (simp only [List.length_drop,List.length_take];rfl)) ?_;(with_reducible refine (rela_set_has.calls 2251799864016896 a0_2 true _ A48.out).mono ?_);rintro e w' ⟨rfl,⟨nd,rfl⟩⟩;refine ⟨_,rfl, ?_⟩))
            go_meet
            case rel => exact ⟨_,(true),(by first | rfl | (simp;done) | (simp [*];done)),H',⟨by have := HJ5.out;have := HJ17.out;have := HJ35.out;first | omega | exact Nat.le_refl _⟩,⟨by (with_reducible repeat (first | refine blk_drewN ?_ _ | refine blk_drew ?_ | refine blk_alloc ?_ _));exact BK414.out⟩,⟨by (with_reducible repeat (first | refine blk_drewN ?_ _ | refine blk_drew ?_ | refine blk_alloc ?_ _));exact BK415.out⟩,⟨by repeat (first | (with_reducible first | exact HB.out | apply below_alloc | apply pw_below_drewN | apply below_drew1 | refine below_set ?_ GE414.out | refine below_set ?_ GE415.out) | exact HB.out)⟩⟩
           rw [if_neg c55] at H;have c55b0 : decide (62 < a0_4) = false := decide_eq_false c55;clear c55;have H' := am0 H;clear H;have hnb58 := NB414_415.out;have hnc58 := NB415_414.out;have hcz59_0 : wc.cell? ⟨gb414,0,none⟩ = some (.int .i64 a0_0) := (blk_cell BK414.out 0).trans rfl;have hcz59_1 : wc.cell? ⟨gb414,1,none⟩ = some (.int .i64 a0_1) := (blk_cell BK414.out 1).trans rfl;have hcz59_2 : wc.cell? ⟨gb414,2,none⟩ = some (.int .u8 a0_2) := (blk_cell BK414.out 2).trans rfl;have hcz59_3 : wc.cell? ⟨gb414,3,none⟩ = some (.int .i64 a0_3) := (blk_cell BK414.out 3).trans rfl;have hcz59_4 : wc.cell? ⟨gb414,4,none⟩ = some (.int .i64 a0_4) := (blk_cell BK414.out 4).trans rfl;have hfz59_0 := blk_frozen BK414.out 0;have hfz59_1 := blk_frozen BK414.out 1;have hfz59_2 := blk_frozen BK414.out 2;have hfz59_3 := blk_frozen BK414.out 3;have hfz59_4 := blk_frozen BK414.out 4;go_wp2_with (first | ((with_reducible refine gate_callee (f := 82) rfl ?_);refine goesL_ (some 77) rfl rfl Tryd.func82 (by kernel_rfl) rfl #[.int .u64 2251799864016896, .int .u8 a0_2] rfl (by (try simp only [List.map_toArray,List.map_cons,List.map_nil]);first | done | rfl | (simp only [List.length_drop,List.length_take];rfl)) ?_;(with_reducible refine (rela_set_has.calls 2251799864016896 a0_2 true _ A48.out).mono ?_);rintro e w' ⟨rfl,⟨nd,rfl⟩⟩;refine ⟨_,rfl, ?_⟩))
           go_meet
           case rel => exact ⟨_,(((Go.bits .and .i64 a0_4 1) == 1)),(by first | rfl | (simp;done) | (simp [*];done)),H',⟨by have := HJ5.out;have := HJ17.out;have := HJ35.out;first | omega | exact Nat.le_refl _⟩,⟨by (with_reducible repeat (first | refine blk_drewN ?_ _ | refine blk_drew ?_ | refine blk_alloc ?_ _));exact BK414.out⟩,⟨by (with_reducible repeat (first | refine blk_drewN ?_ _ | refine blk_drew ?_ | refine blk_alloc ?_ _));exact BK415.out⟩,⟨by repeat (first | (with_reducible first | exact HB.out | apply below_alloc | apply pw_below_drewN | apply below_drew1 | refine below_set ?_ GE414.out | refine below_set ?_ GE415.out) | exact HB.out)⟩⟩
          rw [if_neg c51] at H;have c51b0 : (a0_2 == 43) = false := beq_eq_false_iff_ne.mpr c51;have c51b1 : (a0_2 != 43) = true := bne_iff_ne.mpr c51;have H' := am0 H;clear H;have hnb60 := NB414_415.out;have hnc60 := NB415_414.out;have hcz61_0 : wc.cell? ⟨gb414,0,none⟩ = some (.int .i64 a0_0) := (blk_cell BK414.out 0).trans rfl;have hcz61_1 : wc.cell? ⟨gb414,1,none⟩ = some (.int .i64 a0_1) := (blk_cell BK414.out 1).trans rfl;have hcz61_2 : wc.cell? ⟨gb414,2,none⟩ = some (.int .u8 a0_2) := (blk_cell BK414.out 2).trans rfl;have hcz61_3 : wc.cell? ⟨gb414,3,none⟩ = some (.int .i64 a0_3) := (blk_cell BK414.out 3).trans rfl;have hcz61_4 : wc.cell? ⟨gb414,4,none⟩ = some (.int .i64 a0_4) := (blk_cell BK414.out 4).trans rfl;have hfz61_0 := blk_frozen BK414.out 0;have hfz61_1 := blk_frozen BK414.out 1;have hfz61_2 := blk_frozen BK414.out 2;have hfz61_3 := blk_frozen BK414.out 3;have hfz61_4 := blk_frozen BK414.out 4;go_wp2_with (first | ((with_reducible refine gate_callee (f := 82) rfl ?_);refine goesL_ (some 77) rfl rfl Tryd.func82 (by kernel_rfl) rfl #[.int .u64 2251799864016896, .int .u8 a0_2] rfl (by (try simp only [List.map_toArray,List.map_cons,List.map_nil]);first | done | rfl | (simp only [List.length_drop,List.length_take];rfl)) ?_;(with_reducible refine (rela_set_has.calls 2251799864016896 a0_2 true _ A48.out).mono ?_);rintro e w' ⟨rfl,⟨nd,rfl⟩⟩;refine ⟨_,rfl, ?_⟩))
          go_meet
          case rel => exact ⟨_,(false),(by first | rfl | (simp;done) | (simp [*];done)),H',⟨by have := HJ5.out;have := HJ17.out;have := HJ35.out;first | omega | exact Nat.le_refl _⟩,⟨by (with_reducible repeat (first | refine blk_drewN ?_ _ | refine blk_drew ?_ | refine blk_alloc ?_ _));exact BK414.out⟩,⟨by (with_reducible repeat (first | refine blk_drewN ?_ _ | refine blk_drew ?_ | refine blk_alloc ?_ _));exact BK415.out⟩,⟨by repeat (first | (with_reducible first | exact HB.out | apply below_alloc | apply pw_below_drewN | apply below_drew1 | refine below_set ?_ GE414.out | refine below_set ?_ GE415.out) | exact HB.out)⟩⟩
         rw [if_neg c50] at H;have c50b0 : (a0_4 == 0) = false := beq_eq_false_iff_ne.mpr c50;have c50b1 : (a0_4 != 0) = true := bne_iff_ne.mpr c50
         (first | rw [c50b0] | (simp only [i64_w,i32_w];rw [c50b0]) | skip)
         have H' := am0 H;clear H;have hnb62 := NB414_415.out;have hnc62 := NB415_414.out;have hcz63_0 : wc.cell? ⟨gb414,0,none⟩ = some (.int .i64 a0_0) := (blk_cell BK414.out 0).trans rfl;have hcz63_1 : wc.cell? ⟨gb414,1,none⟩ = some (.int .i64 a0_1) := (blk_cell BK414.out 1).trans rfl;have hcz63_2 : wc.cell? ⟨gb414,2,none⟩ = some (.int .u8 a0_2) := (blk_cell BK414.out 2).trans rfl;have hcz63_3 : wc.cell? ⟨gb414,3,none⟩ = some (.int .i64 a0_3) := (blk_cell BK414.out 3).trans rfl;have hcz63_4 : wc.cell? ⟨gb414,4,none⟩ = some (.int .i64 a0_4) := (blk_cell BK414.out 4).trans rfl;have hfz63_0 := blk_frozen BK414.out 0;have hfz63_1 := blk_frozen BK414.out 1;have hfz63_2 := blk_frozen BK414.out 2;have hfz63_3 := blk_frozen BK414.out 3;have hfz63_4 := blk_frozen BK414.out 4;go_wp2_with (first | ((with_reducible refine gate_callee (f := 82) rfl ?_);refine goesL_ (some 77) rfl rfl Tryd.func82 (by kernel_rfl) rfl #[.int .u64 2251799864016896, .int .u8 a0_2] rfl (by (try simp only [List.map_toArray,List.map_cons,List.map_nil]);first | done | rfl | (simp only [List.length_drop,List.length_take];rfl)) ?_;(with_reducible refine (rela_set_has.calls 2251799864016896 a0_2 true _ A48.out).mono ?_);rintro e w' ⟨rfl,⟨nd,rfl⟩⟩;refine ⟨_,rfl, ?_⟩))
         go_meet
         case rel => exact ⟨_,(true),(by first | rfl | (simp;done) | (simp [*];done)),H',⟨by have := HJ5.out;have := HJ17.out;have := HJ35.out;first | omega | exact Nat.le_refl _⟩,⟨by (with_reducible repeat (first | refine blk_drewN ?_ _ | refine blk_drew ?_ | refine blk_alloc ?_ _));exact BK414.out⟩,⟨by (with_reducible repeat (first | refine blk_drewN ?_ _ | refine blk_drew ?_ | refine blk_alloc ?_ _));exact BK415.out⟩,⟨by repeat (first | (with_reducible first | exact HB.out | apply below_alloc | apply pw_below_drewN | apply below_drew1 | refine below_set ?_ GE414.out | refine below_set ?_ GE415.out) | exact HB.out)⟩⟩
        replace c49 := Bool.eq_false_iff.mpr c49;subst c49;have H1 : (if a0_2 = 43 then (if a0_4 < 0 then (rela_may.j3 kj35 a2 true a0_0 a0_1 a0_2 a0_3 a0_4) else (if a0_4 > 62 then (rela_may.j3 kj35 a2 true a0_0 a0_1 a0_2 a0_3 a0_4) else (rela_may.j3 kj35 a2 ((Go.bits .and .i64 a0_4 1) == 1) a0_0 a0_1 a0_2 a0_3 a0_4))) else (rela_may.j3 kj35 a2 false a0_0 a0_1 a0_2 a0_3 a0_4)) = some r := by rw [if_neg (show ¬ (false = true) by decide)] at H;exact H
        clear H;have H := H1;clear H1
        by_cases c64 : a0_2 = 43
        ·rw [if_pos c64] at H
         have c64b0 : (a0_2 == 43) = true := beq_iff_eq.mpr c64;have c64b1 : (a0_2 != 43) = false := bne_eq_false_iff_eq.mpr c64;clear c64
         by_cases c65 : a0_4 < 0
         ·rw [if_pos c65] at H
          have c65b0 : decide (a0_4 < 0) = true := decide_eq_true c65;clear c65;have H' := am0 H;clear H;have hnb66 := NB414_415.out;have hnc66 := NB415_414.out;have hcz67_0 : wc.cell? ⟨gb414,0,none⟩ = some (.int .i64 a0_0) := (blk_cell BK414.out 0).trans rfl;have hcz67_1 : wc.cell? ⟨gb414,1,none⟩ = some (.int .i64 a0_1) := (blk_cell BK414.out 1).trans rfl;have hcz67_2 : wc.cell? ⟨gb414,2,none⟩ = some (.int .u8 a0_2) := (blk_cell BK414.out 2).trans rfl;have hcz67_3 : wc.cell? ⟨gb414,3,none⟩ = some (.int .i64 a0_3) := (blk_cell BK414.out 3).trans rfl;have hcz67_4 : wc.cell? ⟨gb414,4,none⟩ = some (.int .i64 a0_4) := (blk_cell BK414.out 4).trans rfl;have hfz67_0 := blk_frozen BK414.out 0;have hfz67_1 := blk_frozen BK414.out 1;have hfz67_2 := blk_frozen BK414.out 2;have hfz67_3 := blk_frozen BK414.out 3;have hfz67_4 := blk_frozen BK414.out 4;go_wp2_with (first | ((with_reducible refine gate_callee (f := 82) rfl ?_);refine goesL_ (some 77) rfl rfl Tryd.func82 (by kernel_rfl) rfl #[.int .u64 2251799864016896, .int .u8 a0_2] rfl (by (try simp only [List.map_toArray,List.map_cons,List.map_nil]);first | done | rfl | (simp only [List.length_drop,List.length_take];rfl)) ?_;(with_reducible refine (rela_set_has.calls 2251799864016896 a0_2 false _ A48.out).mono ?_);rintro e w' ⟨rfl,⟨nd,rfl⟩⟩;refine ⟨_,rfl, ?_⟩))
          go_meet
          case rel => exact ⟨_,(true),(by first | rfl | (simp;done) | (simp [*];done)),H',⟨by have := HJ5.out;have := HJ17.out;have := HJ35.out;first | omega | exact Nat.le_refl _⟩,⟨by (with_reducible repeat (first | refine blk_drewN ?_ _ | refine blk_drew ?_ | refine blk_alloc ?_ _));exact BK414.out⟩,⟨by (with_reducible repeat (first | refine blk_drewN ?_ _ | refine blk_drew ?_ | refine blk_alloc ?_ _));exact BK415.out⟩,⟨by repeat (first | (with_reducible first | exact HB.out | apply below_alloc | apply pw_below_drewN | apply below_drew1 | refine below_set ?_ GE414.out | refine below_set ?_ GE415.out) | exact HB.out)⟩⟩
         rw [if_neg c65] at H;have c65b0 : decide (a0_4 < 0) = false := decide_eq_false c65;clear c65
         by_cases c68 : a0_4 > 62
         ·rw [if_pos c68] at H
          have c68b0 : decide (62 < a0_4) = true := decide_eq_true c68;clear c68;have H' := am0 H;clear H;have hnb69 := NB414_415.out;have hnc69 := NB415_414.out;have hcz70_0 : wc.cell? ⟨gb414,0,none⟩ = some (.int .i64 a0_0) := (blk_cell BK414.out 0).trans rfl;have hcz70_1 : wc.cell? ⟨gb414,1,none⟩ = some (.int .i64 a0_1) := (blk_cell BK414.out 1).trans rfl;have hcz70_2 : wc.cell? ⟨gb414,2,none⟩ = some (.int .u8 a0_2) := (blk_cell BK414.out 2).trans rfl;have hcz70_3 : wc.cell? ⟨gb414,3,none⟩ = some (.int .i64 a0_3) := (blk_cell BK414.out 3).trans rfl;have hcz70_4 : wc.cell? ⟨gb414,4,none⟩ = some (.int .i64 a0_4) := (blk_cell BK414.out 4).trans rfl;have hfz70_0 := blk_frozen BK414.out 0;have hfz70_1 := blk_frozen BK414.out 1;have hfz70_2 := blk_frozen BK414.out 2;have hfz70_3 := blk_frozen BK414.out 3;have hfz70_4 := blk_frozen BK414.out 4;go_wp2_with (first | ((with_reducible refine gate_callee (f := 82) rfl ?_);refine goesL_ (some 77) rfl rfl Tryd.func82 (by kernel_rfl) rfl #[.int .u64 2251799864016896, .int .u8 a0_2] rfl (by (try simp only [List.map_toArray,List.map_cons,List.map_nil]);first | done | rfl | (simp only [List.length_drop,List.length_take];rfl)) ?_;(with_reducible refine (rela_set_has.calls 2251799864016896 a0_2 false _ A48.out).mono ?_);rintro e w' ⟨rfl,⟨nd,rfl⟩⟩;refine ⟨_,rfl, ?_⟩))
          go_meet
          case rel => exact ⟨_,(true),(by first | rfl | (simp;done) | (simp [*];done)),H',⟨by have := HJ5.out;have := HJ17.out;have := HJ35.out;first | omega | exact Nat.le_refl _⟩,⟨by (with_reducible repeat (first | refine blk_drewN ?_ _ | refine blk_drew ?_ | refine blk_alloc ?_ _));exact BK414.out⟩,⟨by (with_reducible repeat (first | refine blk_drewN ?_ _ | refine blk_drew ?_ | refine blk_alloc ?_ _));exact BK415.out⟩,⟨by repeat (first | (with_reducible first | exact HB.out | apply below_alloc | apply pw_below_drewN | apply below_drew1 | refine below_set ?_ GE414.out | refine below_set ?_ GE415.out) | exact HB.out)⟩⟩
         rw [if_neg c68] at H;have c68b0 : decide (62 < a0_4) = false := decide_eq_false c68;clear c68;have H' := am0 H;clear H;have hnb71 := NB414_415.out;have hnc71 := NB415_414.out;have hcz72_0 : wc.cell? ⟨gb414,0,none⟩ = some (.int .i64 a0_0) := (blk_cell BK414.out 0).trans rfl;have hcz72_1 : wc.cell? ⟨gb414,1,none⟩ = some (.int .i64 a0_1) := (blk_cell BK414.out 1).trans rfl;have hcz72_2 : wc.cell? ⟨gb414,2,none⟩ = some (.int .u8 a0_2) := (blk_cell BK414.out 2).trans rfl;have hcz72_3 : wc.cell? ⟨gb414,3,none⟩ = some (.int .i64 a0_3) := (blk_cell BK414.out 3).trans rfl;have hcz72_4 : wc.cell? ⟨gb414,4,none⟩ = some (.int .i64 a0_4) := (blk_cell BK414.out 4).trans rfl;have hfz72_0 := blk_frozen BK414.out 0;have hfz72_1 := blk_frozen BK414.out 1;have hfz72_2 := blk_frozen BK414.out 2;have hfz72_3 := blk_frozen BK414.out 3;have hfz72_4 := blk_frozen BK414.out 4;go_wp2_with (first | ((with_reducible refine gate_callee (f := 82) rfl ?_);refine goesL_ (some 77) rfl rfl Tryd.func82 (by kernel_rfl) rfl #[.int .u64 2251799864016896, .int .u8 a0_2] rfl (by (try simp only [List.map_toArray,List.map_cons,List.map_nil]);first | done | rfl | (simp only [List.length_drop,List.length_take];rfl)) ?_;(with_reducible refine (rela_set_has.calls 2251799864016896 a0_2 false _ A48.out).mono ?_);rintro e w' ⟨rfl,⟨nd,rfl⟩⟩;refine ⟨_,rfl, ?_⟩))
         go_meet
         case rel => exact ⟨_,(((Go.bits .and .i64 a0_4 1) == 1)),(by first | rfl | (simp;done) | (simp [*];done)),H',⟨by have := HJ5.out;have := HJ17.out;have := HJ35.out;first | omega | exact Nat.le_refl _⟩,⟨by (with_reducible repeat (first | refine blk_drewN ?_ _ | refine blk_drew ?_ | refine blk_alloc ?_ _));exact BK414.out⟩,⟨by (with_reducible repeat (first | refine blk_drewN ?_ _ | refine blk_drew ?_ | refine blk_alloc ?_ _));exact BK415.out⟩,⟨by repeat (first | (with_reducible first | exact HB.out | apply below_alloc | apply pw_below_drewN | apply below_drew1 | refine below_set ?_ GE414.out | refine below_set ?_ GE415.out) | exact HB.out)⟩⟩
        rw [if_neg c64] at H;have c64b0 : (a0_2 == 43) = false := beq_eq_false_iff_ne.mpr c64;have c64b1 : (a0_2 != 43) = true := bne_iff_ne.mpr c64;have H' := am0 H;clear H;have hnb73 := NB414_415.out;have hnc73 := NB415_414.out;have hcz74_0 : wc.cell? ⟨gb414,0,none⟩ = some (.int .i64 a0_0) := (blk_cell BK414.out 0).trans rfl;have hcz74_1 : wc.cell? ⟨gb414,1,none⟩ = some (.int .i64 a0_1) := (blk_cell BK414.out 1).trans rfl;have hcz74_2 : wc.cell? ⟨gb414,2,none⟩ = some (.int .u8 a0_2) := (blk_cell BK414.out 2).trans rfl;have hcz74_3 : wc.cell? ⟨gb414,3,none⟩ = some (.int .i64 a0_3) := (blk_cell BK414.out 3).trans rfl;have hcz74_4 : wc.cell? ⟨gb414,4,none⟩ = some (.int .i64 a0_4) := (blk_cell BK414.out 4).trans rfl;have hfz74_0 := blk_frozen BK414.out 0;have hfz74_1 := blk_frozen BK414.out 1;have hfz74_2 := blk_frozen BK414.out 2;have hfz74_3 := blk_frozen BK414.out 3;have hfz74_4 := blk_frozen BK414.out 4;go_wp2_with (first | ((with_reducible refine gate_callee (f := 82) rfl ?_);refine goesL_ (some 77) rfl rfl Tryd.func82 (by kernel_rfl) rfl #[.int .u64 2251799864016896, .int .u8 a0_2] rfl (by (try simp only [List.map_toArray,List.map_cons,List.map_nil]);first | done | rfl | (simp only [List.length_drop,List.length_take];rfl)) ?_;(with_reducible refine (rela_set_has.calls 2251799864016896 a0_2 false _ A48.out).mono ?_);rintro e w' ⟨rfl,⟨nd,rfl⟩⟩;refine ⟨_,rfl, ?_⟩))
        go_meet
        case rel => exact ⟨_,(false),(by first | rfl | (simp;done) | (simp [*];done)),H',⟨by have := HJ5.out;have := HJ17.out;have := HJ35.out;first | omega | exact Nat.le_refl _⟩,⟨by (with_reducible repeat (first | refine blk_drewN ?_ _ | refine blk_drew ?_ | refine blk_alloc ?_ _));exact BK414.out⟩,⟨by (with_reducible repeat (first | refine blk_drewN ?_ _ | refine blk_drew ?_ | refine blk_alloc ?_ _));exact BK415.out⟩,⟨by repeat (first | (with_reducible first | exact HB.out | apply below_alloc | apply pw_below_drewN | apply below_drew1 | refine below_set ?_ GE414.out | refine below_set ?_ GE415.out) | exact HB.out)⟩⟩
       case rest =>
        clear HC47;try clear c1
        try clear c2
        try clear p2
        try clear c3
        try clear c4
        try clear c5
        try clear c6
        try clear p6
        try clear c7
        try clear c8
        try clear c9
        try clear c14
        try clear c14b0
        try clear c14b1
        try clear c16
        try clear c19
        try clear c19b0
        try clear c19b1
        try clear c20
        try clear c20b0
        try clear c20b1
        try clear c21
        try clear c21b0
        try clear c22
        try clear c24
        try clear c24b0
        try clear c25
        try clear c28
        try clear c28b0
        try clear c29
        try clear c32
        try clear c35
        try clear c38
        try clear c39
        try clear c41
        try clear c41b0
        try clear c41b1
        try clear c42
        try clear c44
        try clear c46
        try clear c49
        try clear c50
        try clear c50b0
        try clear c50b1
        try clear c51
        try clear c51b0
        try clear c51b1
        try clear c52
        try clear c52b0
        try clear c53
        try clear c55
        try clear c55b0
        try clear c56
        try clear c58
        try clear c60
        try clear c62
        try clear c64
        try clear c64b0
        try clear c64b1
        try clear c65
        try clear c65b0
        try clear c66
        try clear c68
        try clear c68b0
        try clear c69
        try clear c71
        try clear c73
        try clear hcz10_0
        try clear hcz10_1
        try clear hcz10_2
        try clear hcz10_3
        try clear hcz10_4
        try clear hcz11_0
        try clear hcz11_1
        try clear hcz11_2
        try clear hcz11_3
        try clear hcz13_0
        try clear hcz13_1
        try clear hcz13_2
        try clear hcz13_3
        try clear hcz13_4
        try clear hcz17_0
        try clear hcz17_1
        try clear hcz17_2
        try clear hcz17_3
        try clear hcz17_4
        try clear hcz23_0
        try clear hcz23_1
        try clear hcz23_2
        try clear hcz23_3
        try clear hcz23_4
        try clear hcz26_0
        try clear hcz26_1
        try clear hcz26_2
        try clear hcz26_3
        try clear hcz26_4
        try clear hcz27_0
        try clear hcz27_1
        try clear hcz27_2
        try clear hcz27_3
        try clear hcz30_0
        try clear hcz30_1
        try clear hcz30_2
        try clear hcz30_3
        try clear hcz30_4
        try clear hcz31_0
        try clear hcz31_1
        try clear hcz31_2
        try clear hcz31_3
        try clear hcz33_0
        try clear hcz33_1
        try clear hcz33_2
        try clear hcz33_3
        try clear hcz33_4
        try clear hcz34_0
        try clear hcz34_1
        try clear hcz34_2
        try clear hcz34_3
        try clear hcz40_0
        try clear hcz40_1
        try clear hcz40_2
        try clear hcz40_3
        try clear hcz40_4
        try clear hcz43_0
        try clear hcz43_1
        try clear hcz43_2
        try clear hcz43_3
        try clear hcz43_4
        try clear hcz45_0
        try clear hcz45_1
        try clear hcz45_2
        try clear hcz45_3
        try clear hcz45_4
        try clear hcz54_0
        try clear hcz54_1
        try clear hcz54_2
        try clear hcz54_3
        try clear hcz54_4
        try clear hcz57_0
        try clear hcz57_1
        try clear hcz57_2
        try clear hcz57_3
        try clear hcz57_4
        try clear hcz59_0
        try clear hcz59_1
        try clear hcz59_2
        try clear hcz59_3
        try clear hcz59_4
        try clear hcz61_0
        try clear hcz61_1
        try clear hcz61_2
        try clear hcz61_3
        try clear hcz61_4
        try clear hcz63_0
        try clear hcz63_1
        try clear hcz63_2
        try clear hcz63_3
        try clear hcz63_4
        try clear hcz67_0
        try clear hcz67_1
        try clear hcz67_2
        try clear hcz67_3
        try clear hcz67_4
        try clear hcz70_0
        try clear hcz70_1
        try clear hcz70_2
        try clear hcz70_3
        try clear hcz70_4
        try clear hcz72_0
        try clear hcz72_1
        try clear hcz72_2
        try clear hcz72_3
        try clear hcz72_4
        try clear hcz74_0
        try clear hcz74_1
        try clear hcz74_2
        try clear hcz74_3
        try clear hcz74_4
        try clear hfz10_0
        try clear hfz10_1
        try clear hfz10_2
        try clear hfz10_3
        try clear hfz10_4
        try clear hfz11_0
        try clear hfz11_1
        try clear hfz11_2
        try clear hfz11_3
        try clear hfz13_0
        try clear hfz13_1
        try clear hfz13_2
        try clear hfz13_3
        try clear hfz13_4
        try clear hfz17_0
        try clear hfz17_1
        try clear hfz17_2
        try clear hfz17_3
        try clear hfz17_4
        try clear hfz23_0
        try clear hfz23_1
        try clear hfz23_2
        try clear hfz23_3
        try clear hfz23_4
        try clear hfz26_0
        try clear hfz26_1
        try clear hfz26_2
        try clear hfz26_3
        try clear hfz26_4
        try clear hfz27_0
        try clear hfz27_1
        try clear hfz27_2
        try clear hfz27_3
        try clear hfz30_0
        try clear hfz30_1
        try clear hfz30_2
        try clear hfz30_3
        try clear hfz30_4
        try clear hfz31_0
        try clear hfz31_1
        try clear hfz31_2
        try clear hfz31_3
        try clear hfz33_0
        try clear hfz33_1
        try clear hfz33_2
        try clear hfz33_3
        try clear hfz33_4
        try clear hfz34_0
        try clear hfz34_1
        try clear hfz34_2
        try clear hfz34_3
        try clear hfz40_0
        try clear hfz40_1
        try clear hfz40_2
        try clear hfz40_3
        try clear hfz40_4
        try clear hfz43_0
        try clear hfz43_1
        try clear hfz43_2
        try clear hfz43_3
        try clear hfz43_4
        try clear hfz45_0
        try clear hfz45_1
        try clear hfz45_2
        try clear hfz45_3
        try clear hfz45_4
        try clear hfz54_0
        try clear hfz54_1
        try clear hfz54_2
        try clear hfz54_3
        try clear hfz54_4
        try clear hfz57_0
        try clear hfz57_1
        try clear hfz57_2
        try clear hfz57_3
        try clear hfz57_4
        try clear hfz59_0
        try clear hfz59_1
        try clear hfz59_2
        try clear hfz59_3
        try clear hfz59_4
        try clear hfz61_0
        try clear hfz61_1
        try clear hfz61_2
        try clear hfz61_3
        try clear hfz61_4
        try clear hfz63_0
        try clear hfz63_1
        try clear hfz63_2
        try clear hfz63_3
        try clear hfz63_4
        try clear hfz67_0
        try clear hfz67_1
        try clear hfz67_2
        try clear hfz67_3
        try clear hfz67_4
        try clear hfz70_0
        try clear hfz70_1
        try clear hfz70_2
        try clear hfz70_3
        try clear hfz70_4
        try clear hfz72_0
        try clear hfz72_1
        try clear hfz72_2
        try clear hfz72_3
        try clear hfz72_4
        try clear hfz74_0
        try clear hfz74_1
        try clear hfz74_2
        try clear hfz74_3
        try clear hfz74_4
        try clear p2
        try clear p6
        obtain ⟨kq,x103_46,rfl,HA,HJ46,BK414,BK415,HB⟩ := hcut
        cases kq with
        | zero => exact absurd HA.out (by simp [rela_may.j3])
        | succ kj46 =>
         have H := HA.out;clear HA;simp only [rela_may.j3] at H
         by_cases c75 : x103_46 = true
         ·subst c75
          have H1 : (some false) = some r := by rw [if_pos rfl] at H;exact H
          clear H;have H := H1;clear H1;obtain rfl := Option.some.inj H;go_wp2
          go_ret
          exact ⟨by first | rfl | (simp [errW_none,errW_some] <;> rfl) | (simp [*,errW_none,errW_some] <;> rfl),by repeat (first | (with_reducible first | exact HB.out | apply below_alloc | apply pw_below_drewN | apply below_drew1 | refine below_set ?_ GE414.out | refine below_set ?_ GE415.out) | exact HB.out)⟩
         replace c75 := Bool.eq_false_iff.mpr c75;subst c75;have H1 : ((rela_set_has.f 2260595906707456 a0_2).bind fun t422 => (if t422 = true then (some (a0_3 == (-1))) else (if a0_3 ≥ 0 then (some (decide (a0_3 < a2))) else (some false)))) = some r := by rw [if_neg (show ¬ (false = true) by decide)] at H;exact H
         clear H;have H := H1;clear H1;replace H := Option.bind_eq_some_iff.mp H;obtain ⟨t422,A760,H⟩ := H;replace H : (if t422 = true then (some (a0_3 == (-1))) else (if a0_3 ≥ 0 then (some (decide (a0_3 < a2))) else (some false))) = some r := H;have A76 := am0 A760;clear A760
         by_cases c77 : t422 = true
         ·subst c77
          have H1 : (some (a0_3 == (-1))) = some r := by rw [if_pos rfl] at H;exact H
          clear H;have H := H1;clear H1;obtain rfl := Option.some.inj H;have hnb78 := NB414_415.out;have hnc78 := NB415_414.out;have hcz79_0 : wc.cell? ⟨gb414,0,none⟩ = some (.int .i64 a0_0) := (blk_cell BK414.out 0).trans rfl;have hcz79_1 : wc.cell? ⟨gb414,1,none⟩ = some (.int .i64 a0_1) := (blk_cell BK414.out 1).trans rfl;have hcz79_2 : wc.cell? ⟨gb414,2,none⟩ = some (.int .u8 a0_2) := (blk_cell BK414.out 2).trans rfl;have hcz79_3 : wc.cell? ⟨gb414,3,none⟩ = some (.int .i64 a0_3) := (blk_cell BK414.out 3).trans rfl;have hcz79_4 : wc.cell? ⟨gb414,4,none⟩ = some (.int .i64 a0_4) := (blk_cell BK414.out 4).trans rfl;have hfz79_0 := blk_frozen BK414.out 0;have hfz79_1 := blk_frozen BK414.out 1;have hfz79_2 := blk_frozen BK414.out 2;have hfz79_3 := blk_frozen BK414.out 3;have hfz79_4 := blk_frozen BK414.out 4;go_wp2_with (first | ((with_reducible refine gate_callee (f := 82) rfl ?_);refine goesL_ (some 106) rfl rfl Tryd.func82 (by kernel_rfl) rfl #[.int .u64 2260595906707456, .int .u8 a0_2] rfl (by (try simp only [List.map_toArray,List.map_cons,List.map_nil]);first | done | rfl | (simp only [List.length_drop,List.length_take];rfl)) ?_;(with_reducible refine (rela_set_has.calls 2260595906707456 a0_2 true _ A76.out).mono ?_);rintro e w' ⟨rfl,⟨nd,rfl⟩⟩;refine ⟨_,rfl, ?_⟩))
          go_ret
          exact ⟨by first | rfl | (simp [errW_none,errW_some] <;> rfl) | (simp [*,errW_none,errW_some] <;> rfl),by repeat (first | (with_reducible first | exact HB.out | apply below_alloc | apply pw_below_drewN | apply below_drew1 | refine below_set ?_ GE414.out | refine below_set ?_ GE415.out) | exact HB.out)⟩
         replace c77 := Bool.eq_false_iff.mpr c77;subst c77;have H1 : (if a0_3 ≥ 0 then (some (decide (a0_3 < a2))) else (some false)) = some r := by rw [if_neg (show ¬ (false = true) by decide)] at H;exact H
         clear H;have H := H1;clear H1
         by_cases c80 : a0_3 ≥ 0
         ·rw [if_pos c80] at H
          have c80b0 : decide (0 ≤ a0_3) = true := decide_eq_true c80;clear c80;obtain rfl := Option.some.inj H;have hnb81 := NB414_415.out;have hnc81 := NB415_414.out;have hcz82_0 : wc.cell? ⟨gb414,0,none⟩ = some (.int .i64 a0_0) := (blk_cell BK414.out 0).trans rfl;have hcz82_1 : wc.cell? ⟨gb414,1,none⟩ = some (.int .i64 a0_1) := (blk_cell BK414.out 1).trans rfl;have hcz82_2 : wc.cell? ⟨gb414,2,none⟩ = some (.int .u8 a0_2) := (blk_cell BK414.out 2).trans rfl;have hcz82_3 : wc.cell? ⟨gb414,3,none⟩ = some (.int .i64 a0_3) := (blk_cell BK414.out 3).trans rfl;have hcz82_4 : wc.cell? ⟨gb414,4,none⟩ = some (.int .i64 a0_4) := (blk_cell BK414.out 4).trans rfl;have hfz82_0 := blk_frozen BK414.out 0;have hfz82_1 := blk_frozen BK414.out 1;have hfz82_2 := blk_frozen BK414.out 2;have hfz82_3 := blk_frozen BK414.out 3;have hfz82_4 := blk_frozen BK414.out 4;go_wp2_with (first | ((with_reducible refine gate_callee (f := 82) rfl ?_);refine goesL_ (some 106) rfl rfl Tryd.func82 (by kernel_rfl) rfl #[.int .u64 2260595906707456, .int .u8 a0_2] rfl (by (try simp only [List.map_toArray,List.map_cons,List.map_nil]);first | done | rfl | (simp only [List.length_drop,List.length_take];rfl)) ?_;(with_reducible refine (rela_set_has.calls 2260595906707456 a0_2 false _ A76.out).mono ?_);rintro e w' ⟨rfl,⟨nd,rfl⟩⟩;refine ⟨_,rfl, ?_⟩))
          go_ret
          exact ⟨by first | rfl | (simp [errW_none,errW_some] <;> rfl) | (simp [*,errW_none,errW_some] <;> rfl),by repeat (first | (with_reducible first | exact HB.out | apply below_alloc | apply pw_below_drewN | apply below_drew1 | refine below_set ?_ GE414.out | refine below_set ?_ GE415.out) | exact HB.out)⟩
         rw [if_neg c80] at H;have c80b0 : decide (0 ≤ a0_3) = false := decide_eq_false c80;clear c80;obtain rfl := Option.some.inj H;have hnb83 := NB414_415.out;have hnc83 := NB415_414.out;have hcz84_0 : wc.cell? ⟨gb414,0,none⟩ = some (.int .i64 a0_0) := (blk_cell BK414.out 0).trans rfl;have hcz84_1 : wc.cell? ⟨gb414,1,none⟩ = some (.int .i64 a0_1) := (blk_cell BK414.out 1).trans rfl;have hcz84_2 : wc.cell? ⟨gb414,2,none⟩ = some (.int .u8 a0_2) := (blk_cell BK414.out 2).trans rfl;have hcz84_3 : wc.cell? ⟨gb414,3,none⟩ = some (.int .i64 a0_3) := (blk_cell BK414.out 3).trans rfl;have hcz84_4 : wc.cell? ⟨gb414,4,none⟩ = some (.int .i64 a0_4) := (blk_cell BK414.out 4).trans rfl;have hfz84_0 := blk_frozen BK414.out 0;have hfz84_1 := blk_frozen BK414.out 1;have hfz84_2 := blk_frozen BK414.out 2;have hfz84_3 := blk_frozen BK414.out 3;have hfz84_4 := blk_frozen BK414.out 4;go_wp2_with (first | ((with_reducible refine gate_callee (f := 82) rfl ?_);refine goesL_ (some 106) rfl rfl Tryd.func82 (by kernel_rfl) rfl #[.int .u64 2260595906707456, .int .u8 a0_2] rfl (by (try simp only [List.map_toArray,List.map_cons,List.map_nil]);first | done | rfl | (simp only [List.length_drop,List.length_take];rfl)) ?_;(with_reducible refine (rela_set_has.calls 2260595906707456 a0_2 false _ A76.out).mono ?_);rintro e w' ⟨rfl,⟨nd,rfl⟩⟩;refine ⟨_,rfl, ?_⟩))
         go_ret
         exact ⟨by first | rfl | (simp [errW_none,errW_some] <;> rfl) | (simp [*,errW_none,errW_some] <;> rfl),by repeat (first | (with_reducible first | exact HB.out | apply below_alloc | apply pw_below_drewN | apply below_drew1 | refine below_set ?_ GE414.out | refine below_set ?_ GE415.out) | exact HB.out)⟩
end Go.Proofs.YtalomolellcefaaDoor.Q
