/- What is proved here: steps on the way to the law (texts joined by a program: WWords, WKept, WRepsOne, WNEv, Put, Q35, Read, Iter, Lacks, ResLacks, ResBind, Q1, Q2, Q3, Q4, Q5, Q6, Q7, Alive, NamesLaw, Q14). -/
import Derived.Test.YtalomolellcefaaDoorJ1
import Derived.Test.YtalomolellcefaaDoorJ2
import Derived.Test.YtalomolellcefaaDoorJ3
import Derived.Test.YtalomolellcefaaDoorJ4
import Derived.Below
import Derived.Deep.Draws
import Derived.Deep.AppendLies
import Derived.Maps.AppendAt
import Derived.OwnWalk
import Derived.Laws.BytesArg
import Derived.Laws.MakeOwn
import Derived.Laws.OwnMore
import Derived.Deep.OwnRows
import Derived.Tactics
import Derived.Lib.ConvBytes
import Derived.Laws.Slices
import Derived.WalkKit
import Derived.KernelRfl
import Derived.RowKit3
import Derived.Deep.LoopGhost
import Derived.Deep.QuietTactic
import Derived.BigQuiet
import Derived.WideLaws
import Derived.Deep.DeepCutAuto
import Derived.Deep.CutBlock
import Derived.Deep.RegionHeld3
import Derived.Laws.Rows
import Derived.Lib.AppendStr
import Derived.ArgAppend
import Derived.Laws.IdiomCopy
import Derived.RowKit
import Derived.Outline
import Derived.StringKeys
import Derived.Maps.Keyed
import Derived.Maps.RangeWalk
import Derived.IntWalk
import Derived.Shelf.SlIter.Nil
import Derived.Shelf.SortM.Plain
import Derived.Shelf.SortM.SortNone
import Derived.Shelf.SlMaps.DeleteFunc
import Derived.Ground.GgzProg
import Derived.Ground.SlgmProg
import Derived.Ground.SlmdProg
import Derived.Test.YtalomolellcefaaDoorProg
set_option linter.unusedSimpArgs false
set_option linter.unusedVariables false
namespace Go.Proofs.YtalomolellcefaaDoorW.PrintWords
open Go.RowKit
namespace Kd
section
variable {w W : World} {A : Option Addr} {n : Nat}
theorem at_string {xs : List ByteArray} (h : Kd.string.C w A n xs) (i : Int) (h0 : 0 ≤ i) (h1 : i < n) : ∃ ad,A = some ad ∧ w.cell? (ad.add i.toNat) = some (.string (rdOf ByteArray.empty xs i)) :=
 ReadsOf.at_ (reads_of_C (enc := Value.string) (d := ByteArray.empty) (h1 := fun _ => rfl) h) i h0 h1
variable {α : Type} {enc : α → Value} {h1 : ∀ x, (enc x).oneCell' = true} {e base g cap : Nat} {ok : Nat → Prop} {xs : List α}
end
end Kd
section
variable {P : Program} {ops : Array Oper} {o : Oper} {a : Act} {Q : Exit → Act → World → Prop} {Kc : Act → World → Prop}
namespace Kd
variable {α : Type}
end Kd
end
namespace Kd
end Kd
end Go.Proofs.YtalomolellcefaaDoorW.PrintWords
namespace Go.Proofs.YtalomolellcefaaDoorW.PrintWords
open Go.RowKit
section
variable {w W W2 : World} {S S2 S' : Nat → Prop}
theorem blk_kept {g : Nat} {o : Obj} (hb : W.heap[g]? = some o) (hk : Kept W W2 S) (hne : ¬ S g) : W2.heap[g]? = some o := (hk.2 g (blk_lt hb) hne).trans hb
end
namespace Kd
end Kd
end Go.Proofs.YtalomolellcefaaDoorW.PrintWords
namespace Go.Proofs.YtalomolellcefaaDoorW.PrintWords
theorem Reps.one {α : Type} {R : α → List Value → Prop} {ps : List α} {cs : List Value} {p : α} {v : Value} (hp : R p [v]) (h : Reps R 1 ps cs) : Reps R 1 (p :: ps) (v :: cs) := by
 refine ⟨by simp [h.1],fun j q hq => ?_⟩
 cases j with
 | zero =>
  simp only [List.getElem?_cons_zero,Option.some.injEq] at hq;subst hq;simpa using hp
 | succ j =>
  simp only [List.getElem?_cons_succ] at hq;have h1 := h.2 j q hq;simpa [Nat.mul_one] using h1
end Go.Proofs.YtalomolellcefaaDoorW.PrintWords
namespace Go.Proofs.YtalomolellcefaaDoorW.PrintWords
open Go.RowKit
namespace Kd
section
variable {α : Type} {d : Kd α} {e base n cap g : Nat} {ok ok' okp : Nat → Prop} {w w1 W : World} {v v1 : Value} {xs ys : List α}
theorem N_made {rows : List (List Value)} (hR : (raw d.sz).R e w1 base (fun k => k = W.heap.size) v1 rows) (hg : W.grownBy w1 none) (hat : ∃ b,v1.ownBlock = some b ∧ W.heap.size ≤ b) (hl : rows.length = xs.length) (hf : ∀ (j : Nat) (x : α) (c : List Value),xs[j]? = some x → rows[j]? = some c → FK d W okp x c)
  (hok : ∀ k,okp k → ok k) (hfresh : ok W.heap.size) : N d e w1 base ok v1 xs := by
 obtain ⟨b,hb,hle⟩ := hat;refine ⟨fun k hk => by rw [hR.1 k hk];exact hfresh,rows,hl,raw_tight hR,fun j x c hx hc => ?_⟩;refine FK_mono (FK_step (FK_bound (hf j x c hx hc)) (fun k hk hlt => hg.block k hlt (by simp))) (fun k hk => ⟨hok k hk.1,fun he => ?_⟩);rw [hb] at he
 injection he with he
 have := hk.2;omega
end
section
variable {P : Program} {ops : Array Oper} {rest : List Oper} {o : Oper} {a : Act} {Q : Exit → Act → World → Prop} {Kc : Act → World → Prop} {α : Type}
theorem N_lit (d : Kd α) {w0 W : World} (base e : Nat) (hgd : o.guard = none) {N' : Tmp} (_hd : o.dst = some N') {xs : List α} {inner : List Value} {ok okp : Nat → Prop}
  (hrun : (execOp a.eval o).run P W = .ok (.value (.slice (some ⟨W.heap.size,0,none⟩) xs.length xs.length)) (W.alloc (.cells inner.toArray e)))
  (hrep : Reps (FK d W okp) d.sz xs inner) (hok : ∀ k,okp k → ok k) (hfresh : ok W.heap.size) (HB : Below base w0 W) (hbase : base ≤ W.heap.size) (hm : xs.length ≤ 9223372036854775807)
  (h : ∀ v1 w1,N d e w1 base ok v1 xs → Below base w0 w1 → W.grownBy w1 none → (∃ b,v1.ownBlock = some b ∧ W.heap.size ≤ b) → wpList P ops Q rest (a.put o.dst v1) w1) :
  wpList P ops Q (o :: rest) a W := by
 refine R_lit (raw d.sz) base e hgd _hd (xs := chunks d.sz xs.length inner) (inner := inner) (ok := fun k => k = W.heap.size) (okp := fun _ => False) (by rw [chunks_length];exact hrun) (reps_raw hrep (fun y c hk => ⟨d.K_len (FK_now hk),d.K_one (FK_now hk)⟩)) (fun _ hk => hk.elim) rfl HB hbase (by rw [chunks_length];exact hm) ?_;intro v1 w1 hr hb hg hat;exact h v1 w1 (N_made hr hg hat (chunks_length _ _ _) (fun j y c hy hc => by rw [chunks_get hc];exact hrep.2 j y hy) hok hfresh) hb hg hat
end
end Kd
end Go.Proofs.YtalomolellcefaaDoorW.PrintWords
namespace Go.Proofs.YtalomolellcefaaDoor.Q
open Go.RowKit Go.Proofs.YtalomolellcefaaDoorW.PrintWords Go.Proofs.YtalomolellcefaaDoor.Maps
structure DefV where
 r0 : Int
 r1 : Int
 r2 : Int
 o : Int
 s : Int
 strong : Int
 is : Bool
def zD : DefV := ⟨0,0,0,0,0,0,false⟩
def encD (d : DefV) : Value := .agg #[.int .i64 d.r0, .int .i64 d.r1, .int .i64 d.r2, .int .i64 d.o, .int .i64 d.s, .int .i64 d.strong, .bool d.is]
theorem encD_inj (x y : DefV) (h : encD x = encD y) : x = y := by
 cases x;cases y;simp [encD] at h;simp [h]
def rankOf (s : S40) : Int × Int × Int := if s.f3 = -2 then (0,s.f5,s.f4) else if s.f1 = 2 then (1,0,0) else (2,0,0)
def putD (s : S40) (o n : Int) (d : DefV) : DefV :=
 let k := rankOf s
 let st := if s.f3 = -2 then d.strong else if s.f1 = 2 then d.strong else wrap64 (d.strong + 1)
 if d.is = false ∨ 0 < cmpV [k.1,k.2.1,k.2.2] [d.r0,d.r1,d.r2] then ⟨k.1,k.2.1,k.2.2,o,n,st,true⟩ else { d with strong := st }
theorem _root_.Go.Proofs.YtalomolellcefaaDoor.Maps.MapIs.ne {α κ : Type} {P : Program} {K : TypeId} {lit : κ → Lit} {enc : α → Value} {w : World} {b n g : Nat} {f : κ → Option α} {cs : Array Value} {t : TypeId} (h : MapIs P K lit enc w b n f) (hg : w.heap[g]? = some (.cells cs t (0,0))) : g ≠ b := by
 obtain ⟨D,⟨es,clock,hb,_⟩,_⟩ := h;intro e;subst e;rw [hg] at hb;cases hb
theorem blkI3 {w : World} {g o : Nat} {a b c : Int} (h0 : w.cell? ⟨g, o, none⟩ = some (.int .i64 a)) (h1 : w.cell? ⟨g, o + 1, none⟩ = some (.int .i64 b)) (h2 : w.cell? ⟨g, o + 2, none⟩ = some (.int .i64 c)) : (Kd.int .i64).C w (some ⟨g, o, none⟩) 3 [a, b, c] := by
  refine ⟨rfl, by decide, fun _ => ⟨_, rfl, fun j p hp => ⟨[.int .i64 p], rfl, rfl, fun i u hu => ?_⟩⟩⟩
  have hi : i = 0 := by
    have := (List.getElem?_eq_some_iff.1 hu).1
    simpa using this
  subst hi
  obtain rfl : Value.int .i64 p = u := by simpa using hu
  have he : (⟨g, o, none⟩ : Addr).add (j * (Kd.int .i64).sz + 0) = ⟨g, o + j, none⟩ := by
    rw [show j * (Kd.int .i64).sz + 0 = j from Nat.mul_one j]
    unfold Addr.add
    split
    · rename_i hj; subst hj; rfl
    · rfl
  rw [he]
  match j, hp with
  | 0, hp => obtain rfl : a = p := by simpa using hp
             exact h0
  | 1, hp => obtain rfl : b = p := by simpa using hp
             exact h1
  | 2, hp => obtain rfl : c = p := by simpa using hp
             exact h2
  | j + 3, hp => simp at hp
def tailD (k0 k1 k2 st o n : Int) (d : DefV) : DefV :=
 if d.is = false ∨ 0 < cmpV [k0,k1,k2] [d.r0,d.r1,d.r2] then ⟨k0,k1,k2,o,n,st,true⟩ else ⟨d.r0,d.r1,d.r2,d.o,d.s,st,d.is⟩
set_option maxHeartbeats 2000000 in
set_option maxRecDepth 100000 in
theorem put_calls (s : S40) (o n : Int) (tb m1 m2 : Nat) (f : ByteArray → Option DefV) (nn : Nat) (w : World) (ht : w.heap[tb]? = some (.cells #[.map (some m1), .map (some m2)] 58 (0,0))) (hm : MapIs Tryd.prog 9 slit encD w m1 nn f) (hn : nn < maxLen) (hs : s.f0.size ≤ maxLen) :
  Calls Tryd.prog 28 #[.pointer (some ⟨tb,0,none⟩), .agg #[.string s.f0, .int .u8 s.f1, .bool s.f2, .int .i64 s.f3, .int .i64 s.f4, .int .i64 s.f5], .agg #[.int .i64 o, .int .i64 n]] w fun e w' => (∃ v,e = .returned v) ∧ MapIs Tryd.prog 9 slit encD w' m1 (nn + 1) (upd f s.f0 (putD s o n ((f s.f0).getD zD))) ∧ w.grownBy w' (some m1) := by
 have hu40 := Tryd.underlying40;have hu58 := Tryd.underlying58;have hu62 := Tryd.underlying62;obtain ⟨s0,s1,s2,s3,s4,s5⟩ := s
 dsimp only at hs ⊢;have HT := am0 ht;have HM := am0 hm;have HB := am0 (Below.refl w.heap.size w);clear ht hm;go_enter Tryd.func28,Tryd.ntmps28
 go_wp2_with (first
  | ((with_reducible refine gate_dst (N := 4) rfl ?_);refine box_event ?hg (N := 4) ?hd (cs := #[.string s0, .int .u8 s1, .bool s2, .int .i64 s3, .int .i64 s4, .int .i64 s5]) (t := 40) ?hr ?_;(case hd => rfl);(case hg => rfl);(case hr => first | (go_simp;done) | (go_simp;rfl));intro sb hg w1 hbox hb;have BS := am0 hbox;replace HT := am0 (blk_below HT.out hb);replace HM := am0 (HM.out.below hb);have LB := am0 (show w.heap.size ≤ sb by rw [hg];exact below_size HB.out);replace HB := am0 (below_step HB.out hb);clear hbox hb hg)
  | ((with_reducible refine gate_dst (N := 5) rfl ?_);refine box_event ?hg (N := 5) ?hd (cs := #[.int .i64 o, .int .i64 n]) (t := 43) ?hr ?_;(case hd => rfl);(case hg => rfl);(case hr => first | (go_simp;done) | (go_simp;rfl));intro ab hg w2 hbox hb;have BA := am0 hbox;have NSA := am0 (show sb ≠ ab by rw [hg];exact Nat.ne_of_lt (blk_lt BS.out));replace HT := am0 (blk_below HT.out hb);replace HM := am0 (HM.out.below hb);replace BS := am0 (blk_below BS.out hb);have LA := am0 (show w.heap.size ≤ ab by rw [hg];exact below_size HB.out);replace HB := am0 (below_step HB.out hb);clear hbox hb hg))
 rename_i w2 _ _;have KL : Go.Maps.Keyed Tryd.prog 9 := Go.Maps.string_keyed Tryd.underlying9;have hkey := WideMaps.keyOf_string_mk (P := Tryd.prog) Tryd.underlying9 (s := s0) hs;have KEY := am0 hkey;obtain ⟨d,hd⟩ : ∃ d,(f s0).getD zD = d := ⟨_,rfl⟩;obtain ⟨dr0,dr1,dr2,dO,dS,dst,dis⟩ := d;have hl0 := fun (W : World) (hW : MapIs Tryd.prog 9 slit encD W m1 nn f) => hW.look encD_inj KL Tryd.underlying55 zD (Tryd.zeroValue62 W) hkey
 simp only [hd,encD] at hl0;have l1 := hl0 w2.drew (HM.out.below (below_drew1 (Below.refl w2.heap.size w2)));have l2 := fun ob => hl0 (w2.alloc ob).drew (((HM.out.alloc ob).below (below_drew1 (Below.refl _ _))))
 have l3 := fun ob => hl0 (w2.drew.alloc ob) ((HM.out.below (below_drew1 (Below.refl w2.heap.size w2))).alloc ob)
 clear hkey hl0;go_frame;have hd2 := below_drew1 (Below.refl w2.heap.size w2);have tc := (bx (vs := [.map (some m1), .map (some m2)]) (blk_below HT.out hd2) 0 rfl).1;have sc := (bx (vs := [.string s0, .int .u8 s1, .bool s2, .int .i64 s3, .int .i64 s4, .int .i64 s5]) (blk_below BS.out hd2) 0 rfl).1;clear hd2;have ka := fun ob => And.intro (cell_keep (below_alloc (Below.refl w2.drew.heap.size w2.drew) ob) tc) (cell_keep (below_alloc (Below.refl w2.drew.heap.size w2.drew) ob) sc)
 have n1 := World.new_ne w2.drew _ tc;have n2 := World.new_ne w2.drew _ sc;apply wp_once
 case h =>
  go_region_held3 (fun W => W.cell? ⟨tb,0,none⟩ = some (.map (some m1)) ∧ W.cell? ⟨sb,0,none⟩ = some (.string s0)) (first | exact ⟨tc,sc⟩ | exact ka _ | go_keep) (fail)
  all_goals exact once_at _ _
 clear l1 l2 l3 ka n1 n2 tc sc;generalize hw3 : World.alloc _ _ = w3;obtain ⟨hbox,hb⟩ := alloc_facts hw3;clear hw3;have NTD := am0 (Nat.ne_of_lt (blk_lt HT.out));have NSD := am0 (Nat.ne_of_lt (blk_lt BS.out));have NAD := am0 (Nat.ne_of_lt (blk_lt BA.out));have NMD := am0 (Nat.ne_of_lt HM.out.lt);have LD := am0 (below_size HB.out);replace hb := below_step hb (below_drew1 (Below.refl w3.heap.size w3));have BD := am0 (blk_below hbox (below_drew1 (Below.refl w3.heap.size w3)));clear hbox;generalize World.drew w3 = w4 at hb BD ⊢;clear w3;replace HT := am0 (blk_below HT.out hb);replace BS := am0 (blk_below BS.out hb);replace BA := am0 (blk_below BA.out hb);replace HM := am0 (HM.out.below hb);replace HB := am0 (below_step HB.out hb);clear hb;generalize w2.heap.size = db at NTD NSD NAD NMD LD BD ⊢;clear w2;go_upto_region 4 with (fail)
 generalize hw5 : World.alloc _ _ = w5;obtain ⟨hbox,hb⟩ := alloc_facts hw5;clear hw5;have NTR := am0 (Nat.ne_of_lt (blk_lt HT.out));have NSR := am0 (Nat.ne_of_lt (blk_lt BS.out));have NAR := am0 (Nat.ne_of_lt (blk_lt BA.out));have NDR := am0 (Nat.ne_of_lt (blk_lt BD.out));have NMR := am0 (Nat.ne_of_lt HM.out.lt);have LR := am0 (below_size HB.out);have RB := am0 hbox;clear hbox;replace HT := am0 (blk_below HT.out hb);replace BS := am0 (blk_below BS.out hb);replace BA := am0 (blk_below BA.out hb);replace BD := am0 (blk_below BD.out hb);replace HM := am0 (HM.out.below hb);replace HB := am0 (below_step HB.out hb);clear hb;generalize w4.heap.size = rb at NTR NSR NAR NDR NMR LR RB ⊢;clear w4;obtain ⟨c1,_⟩ := bx (vs := [.string s0, .int .u8 s1, .bool s2, .int .i64 s3, .int .i64 s4, .int .i64 s5]) BS.out 1 rfl;obtain ⟨c3,_⟩ := bx (vs := [.string s0, .int .u8 s1, .bool s2, .int .i64 s3, .int .i64 s4, .int .i64 s5]) BS.out 3 rfl;obtain ⟨c4,_⟩ := bx (vs := [.string s0, .int .u8 s1, .bool s2, .int .i64 s3, .int .i64 s4, .int .i64 s5]) BS.out 4 rfl;obtain ⟨c5,_⟩ := bx (vs := [.string s0, .int .u8 s1, .bool s2, .int .i64 s3, .int .i64 s4, .int .i64 s5]) BS.out 5 rfl;obtain ⟨d5,f5⟩ := bx (vs := [.int .i64 dr0, .int .i64 dr1, .int .i64 dr2, .int .i64 dO, .int .i64 dS, .int .i64 dst, .bool dis]) BD.out 5 rfl;obtain ⟨r0,g0⟩ := bx (vs := [.int .i64 2, .int .i64 0, .int .i64 0]) RB.out 0 rfl;obtain ⟨r1,g1⟩ := bx (vs := [.int .i64 2, .int .i64 0, .int .i64 0]) RB.out 1 rfl;obtain ⟨r2,g2⟩ := bx (vs := [.int .i64 2, .int .i64 0, .int .i64 0]) RB.out 2 rfl;have HD := am0 hd;clear hd
 by_cases h1 : s3 = -2
 case' pos =>
  have e1 : (s3 == -2) = true := by simp [h1]
  have HK := am0 h1;clear h1;go_upto_region 8 with (fail)
  generalize hW : World.setCell _ _ _ = W
  obtain ⟨k0,k1,k2,st,HP,RB2,BD2,HT2,BS2,BA2,HM2,HB2⟩ : ∃ k0 k1 k2 st : Int,Aside0 (putD ⟨s0,s1,s2,s3,s4,s5⟩ o n ⟨dr0,dr1,dr2,dO,dS,dst,dis⟩ = tailD k0 k1 k2 st o n ⟨dr0,dr1,dr2,dO,dS,dst,dis⟩) ∧ Aside0 (W.heap[rb]? = some (.cells #[.int .i64 k0, .int .i64 k1, .int .i64 k2] 60 (0,0))) ∧ Aside0 (W.heap[db]? = some (.cells #[.int .i64 dr0, .int .i64 dr1, .int .i64 dr2, .int .i64 dO, .int .i64 dS, .int .i64 st, .bool dis] 62 (0,0))) ∧ Aside0 (W.heap[tb]? = some (.cells #[.map (some m1), .map (some m2)] 58 (0,0))) ∧ Aside0 (W.heap[sb]? = some (.cells #[.string s0, .int .u8 s1, .bool s2, .int .i64 s3, .int .i64 s4, .int .i64 s5] 40 (0,0))) ∧ Aside0 (W.heap[ab]? = some (.cells #[.int .i64 o, .int .i64 n] 43 (0,0))) ∧ Aside0 (MapIs Tryd.prog 9 slit encD W m1 nn f) ∧ Aside0 (Below w.heap.size w W) := by
   subst hW;refine ⟨0,s5,s4,dst,⟨?_⟩,⟨?_⟩,⟨?_⟩,⟨?_⟩,⟨?_⟩,⟨?_⟩,⟨?_⟩,⟨?_⟩⟩
   ·simp only [putD,rankOf,tailD,HK.out,if_true]
   ·exact blk_put (blk_put (blk_put RB.out 0 _ rfl) 1 _ rfl) 2 _ rfl
   ·exact blk_far (blk_far (blk_far BD.out NDR.out _) NDR.out _) NDR.out _
   ·repeat (refine blk_far ?_ NTR.out _)
    exact HT.out
   ·repeat (refine blk_far ?_ NSR.out _)
    exact BS.out
   ·repeat (refine blk_far ?_ NAR.out _)
    exact BA.out
   ·repeat (refine MapIs.setCell ?_ NMR.out _)
    exact HM.out
   repeat (refine below_set ?_ LR.out)
   exact HB.out
  clear hW HT BS BA HM HB RB BD c1 c3 c4 c5 d5 f5 r0 g0 r1 g1 r2 g2 HK e1
 case' neg =>
  have e1 : (s3 == -2) = false := by simp [h1]
  by_cases h2 : s1 = 2
  case' pos =>
   have e2 : (s1 == 2) = true := by simp [h2]
   have HK := am0 (And.intro h1 h2);clear h1 h2;go_upto_region 8 with (fail)
   generalize hW : World.setCell _ _ _ = W
   obtain ⟨k0,k1,k2,st,HP,RB2,BD2,HT2,BS2,BA2,HM2,HB2⟩ : ∃ k0 k1 k2 st : Int,Aside0 (putD ⟨s0,s1,s2,s3,s4,s5⟩ o n ⟨dr0,dr1,dr2,dO,dS,dst,dis⟩ = tailD k0 k1 k2 st o n ⟨dr0,dr1,dr2,dO,dS,dst,dis⟩) ∧ Aside0 (W.heap[rb]? = some (.cells #[.int .i64 k0, .int .i64 k1, .int .i64 k2] 60 (0,0))) ∧ Aside0 (W.heap[db]? = some (.cells #[.int .i64 dr0, .int .i64 dr1, .int .i64 dr2, .int .i64 dO, .int .i64 dS, .int .i64 st, .bool dis] 62 (0,0))) ∧ Aside0 (W.heap[tb]? = some (.cells #[.map (some m1), .map (some m2)] 58 (0,0))) ∧ Aside0 (W.heap[sb]? = some (.cells #[.string s0, .int .u8 s1, .bool s2, .int .i64 s3, .int .i64 s4, .int .i64 s5] 40 (0,0))) ∧ Aside0 (W.heap[ab]? = some (.cells #[.int .i64 o, .int .i64 n] 43 (0,0))) ∧ Aside0 (MapIs Tryd.prog 9 slit encD W m1 nn f) ∧ Aside0 (Below w.heap.size w W) := by
    subst hW;refine ⟨1,0,0,dst,⟨?_⟩,⟨?_⟩,⟨?_⟩,⟨?_⟩,⟨?_⟩,⟨?_⟩,⟨?_⟩,⟨?_⟩⟩
    ·simp only [putD,rankOf,tailD,if_neg HK.out.1,if_pos HK.out.2]
    ·exact blk_put (blk_put (blk_put RB.out 0 _ rfl) 1 _ rfl) 2 _ rfl
    ·exact blk_far (blk_far (blk_far BD.out NDR.out _) NDR.out _) NDR.out _
    ·repeat (refine blk_far ?_ NTR.out _)
     exact HT.out
    ·repeat (refine blk_far ?_ NSR.out _)
     exact BS.out
    ·repeat (refine blk_far ?_ NAR.out _)
     exact BA.out
    ·repeat (refine MapIs.setCell ?_ NMR.out _)
     exact HM.out
    repeat (refine below_set ?_ LR.out)
    exact HB.out
   clear hW HT BS BA HM HB RB BD c1 c3 c4 c5 d5 f5 r0 g0 r1 g1 r2 g2 HK e1 e2
  case' neg =>
   have e2 : (s1 == 2) = false := by simp [h2]
   have HK := am0 (And.intro h1 h2);clear h1 h2;go_upto_region 8 with (fail)
   generalize hW : World.setCell _ _ _ = W
   obtain ⟨k0,k1,k2,st,HP,RB2,BD2,HT2,BS2,BA2,HM2,HB2⟩ : ∃ k0 k1 k2 st : Int,Aside0 (putD ⟨s0,s1,s2,s3,s4,s5⟩ o n ⟨dr0,dr1,dr2,dO,dS,dst,dis⟩ = tailD k0 k1 k2 st o n ⟨dr0,dr1,dr2,dO,dS,dst,dis⟩) ∧ Aside0 (W.heap[rb]? = some (.cells #[.int .i64 k0, .int .i64 k1, .int .i64 k2] 60 (0,0))) ∧ Aside0 (W.heap[db]? = some (.cells #[.int .i64 dr0, .int .i64 dr1, .int .i64 dr2, .int .i64 dO, .int .i64 dS, .int .i64 st, .bool dis] 62 (0,0))) ∧ Aside0 (W.heap[tb]? = some (.cells #[.map (some m1), .map (some m2)] 58 (0,0))) ∧ Aside0 (W.heap[sb]? = some (.cells #[.string s0, .int .u8 s1, .bool s2, .int .i64 s3, .int .i64 s4, .int .i64 s5] 40 (0,0))) ∧ Aside0 (W.heap[ab]? = some (.cells #[.int .i64 o, .int .i64 n] 43 (0,0))) ∧ Aside0 (MapIs Tryd.prog 9 slit encD W m1 nn f) ∧ Aside0 (Below w.heap.size w W) := by
    subst hW;refine ⟨2,0,0,wrap64 (dst + 1),⟨?_⟩,⟨?_⟩,⟨?_⟩,⟨?_⟩,⟨?_⟩,⟨?_⟩,⟨?_⟩,⟨?_⟩⟩
    ·simp only [putD,rankOf,tailD,if_neg HK.out.1,if_neg HK.out.2]
    ·exact blk_far RB.out (fun h => NDR.out h.symm) _
    ·exact blk_put BD.out 5 _ rfl
    ·repeat (refine blk_far ?_ NTD.out _)
     exact HT.out
    ·repeat (refine blk_far ?_ NSD.out _)
     exact BS.out
    ·repeat (refine blk_far ?_ NAD.out _)
     exact BA.out
    ·repeat (refine MapIs.setCell ?_ NMD.out _)
     exact HM.out
    repeat (refine below_set ?_ LD.out)
    exact HB.out
   clear hW HT BS BA HM HB RB BD c1 c3 c4 c5 d5 f5 r0 g0 r1 g1 r2 g2 HK e1 e2
 all_goals
  obtain ⟨q6,_⟩ := bx (vs := [.int .i64 dr0, .int .i64 dr1, .int .i64 dr2, .int .i64 dO, .int .i64 dS, .int .i64 st, .bool dis]) BD2.out 6 rfl;obtain ⟨q0,_⟩ := bx (vs := [.int .i64 dr0, .int .i64 dr1, .int .i64 dr2, .int .i64 dO, .int .i64 dS, .int .i64 st, .bool dis]) BD2.out 0 rfl;obtain ⟨q1,_⟩ := bx (vs := [.int .i64 dr0, .int .i64 dr1, .int .i64 dr2, .int .i64 dO, .int .i64 dS, .int .i64 st, .bool dis]) BD2.out 1 rfl;obtain ⟨q2,_⟩ := bx (vs := [.int .i64 dr0, .int .i64 dr1, .int .i64 dr2, .int .i64 dO, .int .i64 dS, .int .i64 st, .bool dis]) BD2.out 2 rfl;obtain ⟨p0,_⟩ := bx (vs := [.int .i64 k0, .int .i64 k1, .int .i64 k2]) RB2.out 0 rfl;obtain ⟨p1,_⟩ := bx (vs := [.int .i64 k0, .int .i64 k1, .int .i64 k2]) RB2.out 1 rfl;obtain ⟨p2,_⟩ := bx (vs := [.int .i64 k0, .int .i64 k1, .int .i64 k2]) RB2.out 2 rfl;have HCM := am0 (fun (W' : World) (h : Below W.heap.size W W') => compare_calls (some ⟨rb,0,none⟩) (some ⟨db,0,none⟩) 3 3 [k0,k1,k2] [dr0,dr1,dr2] W' (Kd.C_below (blkI3 p0 p1 p2) h) (Kd.C_below (blkI3 q0 q1 q2) h));have HC := am0 (fun (W' : World) (h : Below W.heap.size W W') => cell_keep h q6);clear q0 q1 q2 q6 p0 p1 p2;cases dis
  ·have HP2 := am0 (show putD ⟨s0,s1,s2,s3,s4,s5⟩ o n ⟨dr0,dr1,dr2,dO,dS,dst,false⟩ = ⟨k0,k1,k2,o,n,st,true⟩ by rw [HP.out,tailD,if_pos (.inl rfl)])
   clear HP HCM;refine region_lit (S := fun W' => Below W.heap.size W W' ∧ W'.cell? ⟨db,6,none⟩ = some (.bool false)) (by kernel_rfl) (by kernel_rfl) (by kernel_rfl) ⟨below_drew1 (Below.refl W.heap.size W),HC.out _ (below_drew1 (Below.refl W.heap.size W))⟩ ?_;repeat (first | (refine gl_skip (by rfl) ?_;go_frame) | (refine gl_val (v := ?_) (by rfl) ?_ ?_;rotate_left;(intro W hW;(try dsimp only at hW);go_simp;done);go_frame) | (refine gl_val (v := ?_) (by rfl) ?_ ?_;rotate_left;(intro W hW;(try dsimp only at hW);go_simp;with_reducible rfl);go_frame))
   refine gl_nil (fun W6 hW => ?_);replace RB2 := am0 (blk_below RB2.out hW.1);replace BD2 := am0 (blk_below BD2.out hW.1);replace HT2 := am0 (blk_below HT2.out hW.1);replace BS2 := am0 (blk_below BS2.out hW.1);replace BA2 := am0 (blk_below BA2.out hW.1);replace HM2 := am0 (HM2.out.below hW.1);replace HB2 := am0 (below_step HB2.out hW.1);clear hW HC;go_upto_region 9 with (fail)
   have NDR2 : rb ≠ db := fun h => NDR.out h.symm
   have NDA : ab ≠ db := NAD.out;obtain ⟨S,hS⟩ : ∃ S : (Nat → Bool) → World → Prop,S = fun F W' => W'.heap[db]? = some (.cells #[.int .i64 (cond (F 5) k0 dr0), .int .i64 (cond (F 5) k1 dr1), .int .i64 (cond (F 5) k2 dr2), .int .i64 (cond (F 7) o dO), .int .i64 (cond (F 7) n dS), .int .i64 st, .bool (cond (F 3) true false)] 62 (0,0)) ∧ W'.heap[rb]? = some (.cells #[.int .i64 k0, .int .i64 k1, .int .i64 k2] 60 (0,0)) ∧ W'.heap[ab]? = some (.cells #[.int .i64 o, .int .i64 n] 43 (0,0)) ∧ W'.heap[tb]? = some (.cells #[.map (some m1), .map (some m2)] 58 (0,0)) ∧ W'.heap[sb]? = some (.cells #[.string s0, .int .u8 s1, .bool s2, .int .i64 s3, .int .i64 s4, .int .i64 s5] 40 (0,0)) ∧ MapIs Tryd.prog 9 slit encD W' m1 nn f ∧ Below w.heap.size w W' := ⟨_,rfl⟩
   have hm : ∀ k,(k ≠ 3 ∧ k ≠ 5 ∧ k ≠ 7) → ∀ F W,F k = false → S F W → S (upMark F k) W := by
    subst hS
    rintro k ⟨h3,h5,h7⟩ F W _ hW
    have e3 : upMark F k 3 = F 3 := if_neg (Ne.symm h3);have e5 : upMark F k 5 = F 5 := if_neg (Ne.symm h5);have e7 : upMark F k 7 = F 7 := if_neg (Ne.symm h7);simp only [e3,e5,e7];exact hW
   have hc : ∀ F W,S F W → W.cell? ⟨rb,0,none⟩ = some (.int .i64 k0) ∧ W.cell? ⟨rb,1,none⟩ = some (.int .i64 k1) ∧ W.cell? ⟨rb,2,none⟩ = some (.int .i64 k2) ∧ W.cell? ⟨ab,0,none⟩ = some (.int .i64 o) ∧ W.cell? ⟨ab,1,none⟩ = some (.int .i64 n) := by
    subst hS
    rintro F W ⟨h1,h2,h3,h4,h5,h6,h7⟩
    exact ⟨(bx (vs := [.int .i64 k0, .int .i64 k1, .int .i64 k2]) h2 0 rfl).1,(bx (vs := [.int .i64 k0, .int .i64 k1, .int .i64 k2]) h2 1 rfl).1,(bx (vs := [.int .i64 k0, .int .i64 k1, .int .i64 k2]) h2 2 rfl).1,(bx (vs := [.int .i64 o, .int .i64 n]) h3 0 rfl).1,(bx (vs := [.int .i64 o, .int .i64 n]) h3 1 rfl).1⟩
   have hz : ∀ F W,S F W → W.cell? ⟨db,0,none⟩ = some (.int .i64 (cond (F 5) k0 dr0)) ∧ W.cell? ⟨db,1,none⟩ = some (.int .i64 (cond (F 5) k1 dr1)) ∧ W.cell? ⟨db,2,none⟩ = some (.int .i64 (cond (F 5) k2 dr2)) ∧ W.cell? ⟨db,3,none⟩ = some (.int .i64 (cond (F 7) o dO)) ∧ W.cell? ⟨db,4,none⟩ = some (.int .i64 (cond (F 7) n dS)) ∧ W.cell? ⟨db,5,none⟩ = some (.int .i64 st) ∧ W.cell? ⟨db,6,none⟩ = some (.bool (cond (F 3) true false)) ∧ W.frozen? ⟨db,0,none⟩ = false ∧ W.frozen? ⟨db,1,none⟩ = false ∧ W.frozen? ⟨db,2,none⟩ = false ∧ W.frozen? ⟨db,3,none⟩ = false ∧ W.frozen? ⟨db,4,none⟩ = false ∧ W.frozen? ⟨db,6,none⟩ = false := by
    subst hS
    rintro F W ⟨h1,h2,h3,h4,h5,h6,h7⟩
    exact ⟨(bx (vs := [.int .i64 (cond (F 5) k0 dr0), .int .i64 (cond (F 5) k1 dr1), .int .i64 (cond (F 5) k2 dr2), .int .i64 (cond (F 7) o dO), .int .i64 (cond (F 7) n dS), .int .i64 st, .bool (cond (F 3) true false)]) h1 0 rfl).1,(bx (vs := [.int .i64 (cond (F 5) k0 dr0), .int .i64 (cond (F 5) k1 dr1), .int .i64 (cond (F 5) k2 dr2), .int .i64 (cond (F 7) o dO), .int .i64 (cond (F 7) n dS), .int .i64 st, .bool (cond (F 3) true false)]) h1 1 rfl).1,(bx (vs := [.int .i64 (cond (F 5) k0 dr0), .int .i64 (cond (F 5) k1 dr1), .int .i64 (cond (F 5) k2 dr2), .int .i64 (cond (F 7) o dO), .int .i64 (cond (F 7) n dS), .int .i64 st, .bool (cond (F 3) true false)]) h1 2 rfl).1,(bx (vs := [.int .i64 (cond (F 5) k0 dr0), .int .i64 (cond (F 5) k1 dr1), .int .i64 (cond (F 5) k2 dr2), .int .i64 (cond (F 7) o dO), .int .i64 (cond (F 7) n dS), .int .i64 st, .bool (cond (F 3) true false)]) h1 3 rfl).1,(bx (vs := [.int .i64 (cond (F 5) k0 dr0), .int .i64 (cond (F 5) k1 dr1), .int .i64 (cond (F 5) k2 dr2), .int .i64 (cond (F 7) o dO), .int .i64 (cond (F 7) n dS), .int .i64 st, .bool (cond (F 3) true false)]) h1 4 rfl).1,(bx (vs := [.int .i64 (cond (F 5) k0 dr0), .int .i64 (cond (F 5) k1 dr1), .int .i64 (cond (F 5) k2 dr2), .int .i64 (cond (F 7) o dO), .int .i64 (cond (F 7) n dS), .int .i64 st, .bool (cond (F 3) true false)]) h1 5 rfl).1,(bx (vs := [.int .i64 (cond (F 5) k0 dr0), .int .i64 (cond (F 5) k1 dr1), .int .i64 (cond (F 5) k2 dr2), .int .i64 (cond (F 7) o dO), .int .i64 (cond (F 7) n dS), .int .i64 st, .bool (cond (F 3) true false)]) h1 6 rfl).1,(bx (vs := [.int .i64 (cond (F 5) k0 dr0), .int .i64 (cond (F 5) k1 dr1), .int .i64 (cond (F 5) k2 dr2), .int .i64 (cond (F 7) o dO), .int .i64 (cond (F 7) n dS), .int .i64 st, .bool (cond (F 3) true false)]) h1 0 rfl).2,(bx (vs := [.int .i64 (cond (F 5) k0 dr0), .int .i64 (cond (F 5) k1 dr1), .int .i64 (cond (F 5) k2 dr2), .int .i64 (cond (F 7) o dO), .int .i64 (cond (F 7) n dS), .int .i64 st, .bool (cond (F 3) true false)]) h1 1 rfl).2,(bx (vs := [.int .i64 (cond (F 5) k0 dr0), .int .i64 (cond (F 5) k1 dr1), .int .i64 (cond (F 5) k2 dr2), .int .i64 (cond (F 7) o dO), .int .i64 (cond (F 7) n dS), .int .i64 st, .bool (cond (F 3) true false)]) h1 2 rfl).2,(bx (vs := [.int .i64 (cond (F 5) k0 dr0), .int .i64 (cond (F 5) k1 dr1), .int .i64 (cond (F 5) k2 dr2), .int .i64 (cond (F 7) o dO), .int .i64 (cond (F 7) n dS), .int .i64 st, .bool (cond (F 3) true false)]) h1 3 rfl).2,(bx (vs := [.int .i64 (cond (F 5) k0 dr0), .int .i64 (cond (F 5) k1 dr1), .int .i64 (cond (F 5) k2 dr2), .int .i64 (cond (F 7) o dO), .int .i64 (cond (F 7) n dS), .int .i64 st, .bool (cond (F 3) true false)]) h1 4 rfl).2,(bx (vs := [.int .i64 (cond (F 5) k0 dr0), .int .i64 (cond (F 5) k1 dr1), .int .i64 (cond (F 5) k2 dr2), .int .i64 (cond (F 7) o dO), .int .i64 (cond (F 7) n dS), .int .i64 st, .bool (cond (F 3) true false)]) h1 6 rfl).2⟩
   have k3 : ∀ F W,F 3 = false → S F W → S (upMark F 3) (W.setCell ⟨db,6,none⟩ (.bool true)) := by
    subst hS
    rintro F W hF ⟨h1,h2,h3,h4,h5,h6,h7⟩
    exact ⟨(blk_set h1 _ _).trans rfl,(blk_far h2 NDR2 _),(blk_far h3 NDA _),(blk_far h4 NTD.out _),(blk_far h5 NSD.out _),(MapIs.setCell h6 NMD.out _),(below_set h7 LD.out)⟩
   have k5 : ∀ F W,F 5 = false → S F W → S (upMark F 5) (((W.setCell ⟨db,0,none⟩ (.int .i64 k0)).setCell ⟨db,1,none⟩ (.int .i64 k1)).setCell ⟨db,2,none⟩ (.int .i64 k2)) := by
    subst hS
    rintro F W hF ⟨h1,h2,h3,h4,h5,h6,h7⟩
    exact ⟨(blk_set (blk_set (blk_set h1 _ _) _ _) _ _).trans rfl,(blk_far (blk_far (blk_far h2 NDR2 _) NDR2 _) NDR2 _),(blk_far (blk_far (blk_far h3 NDA _) NDA _) NDA _),(blk_far (blk_far (blk_far h4 NTD.out _) NTD.out _) NTD.out _),(blk_far (blk_far (blk_far h5 NSD.out _) NSD.out _) NSD.out _),(MapIs.setCell (MapIs.setCell (MapIs.setCell h6 NMD.out _) NMD.out _) NMD.out _),(below_set (below_set (below_set h7 LD.out) LD.out) LD.out)⟩
   have k7 : ∀ F W,F 7 = false → S F W → S (upMark F 7) ((W.setCell ⟨db,3,none⟩ (.int .i64 o)).setCell ⟨db,4,none⟩ (.int .i64 n)) := by
    subst hS
    rintro F W hF ⟨h1,h2,h3,h4,h5,h6,h7⟩
    exact ⟨(blk_set (blk_set h1 _ _) _ _).trans rfl,(blk_far (blk_far h2 NDR2 _) NDR2 _),(blk_far (blk_far h3 NDA _) NDA _),(blk_far (blk_far h4 NTD.out _) NTD.out _),(blk_far (blk_far h5 NSD.out _) NSD.out _),(MapIs.setCell (MapIs.setCell h6 NMD.out _) NMD.out _),(below_set (below_set h7 LD.out) LD.out)⟩
   refine region_line S (by kernel_rfl) (by kernel_rfl) (by kernel_rfl) (by subst hS;have hd2 := below_drew1 (Below.refl W6.heap.size W6);exact ⟨blk_below BD2.out hd2,blk_below RB2.out hd2,blk_below BA2.out hd2,blk_below HT2.out hd2,blk_below BS2.out hd2,HM2.out.below hd2,below_drew1 HB2.out⟩) ?_
   (first | (refine gm_val (v := ?_) (by rfl) ?_ (hm 0 (by decide)) ?_;rotate_left;(intro F W hF hW;obtain ⟨b0,b1,b2,b3,b4⟩ := hc F W hW;clear hW;go_simp;done);go_frame) | (refine gm_val (v := ?_) (by rfl) ?_ (hm 0 (by decide)) ?_;rotate_left;(intro F W hF hW;obtain ⟨b0,b1,b2,b3,b4⟩ := hc F W hW;clear hW;go_simp;with_reducible rfl);go_frame))
   (first | (refine gm_val (v := ?_) (by rfl) ?_ (hm 1 (by decide)) ?_;rotate_left;(intro F W hF hW;obtain ⟨b0,b1,b2,b3,b4⟩ := hc F W hW;clear hW;go_simp;done);go_frame) | (refine gm_val (v := ?_) (by rfl) ?_ (hm 1 (by decide)) ?_;rotate_left;(intro F W hF hW;obtain ⟨b0,b1,b2,b3,b4⟩ := hc F W hW;clear hW;go_simp;with_reducible rfl);go_frame))
   (first | (refine gm_val (v := ?_) (by rfl) ?_ (hm 2 (by decide)) ?_;rotate_left;(intro F W hF hW;obtain ⟨b0,b1,b2,b3,b4⟩ := hc F W hW;clear hW;go_simp;done);go_frame) | (refine gm_val (v := ?_) (by rfl) ?_ (hm 2 (by decide)) ?_;rotate_left;(intro F W hF hW;obtain ⟨b0,b1,b2,b3,b4⟩ := hc F W hW;clear hW;go_simp;with_reducible rfl);go_frame))
   (refine gm_step (F := fun W => W.setCell ⟨db,6,none⟩ (.bool true)) (by rfl) ?_ k3 ?_;(focus intro F W hF hW;obtain ⟨b0,b1,b2,b3,b4,b5,b6,e0,e1,e2,e3,e4,e6⟩ := hz F W hW;clear hW;go_simp);go_frame)
   (first | (refine gm_val (v := ?_) (by rfl) ?_ (hm 4 (by decide)) ?_;rotate_left;(intro F W hF hW;obtain ⟨b0,b1,b2,b3,b4⟩ := hc F W hW;clear hW;go_simp;done);go_frame) | (refine gm_val (v := ?_) (by rfl) ?_ (hm 4 (by decide)) ?_;rotate_left;(intro F W hF hW;obtain ⟨b0,b1,b2,b3,b4⟩ := hc F W hW;clear hW;go_simp;with_reducible rfl);go_frame))
   (refine gm_step (F := fun W => ((W.setCell ⟨db,0,none⟩ (.int .i64 k0)).setCell ⟨db,1,none⟩ (.int .i64 k1)).setCell ⟨db,2,none⟩ (.int .i64 k2)) (by rfl) ?_ k5 ?_;(focus intro F W hF hW;obtain ⟨b0,b1,b2,b3,b4,b5,b6,e0,e1,e2,e3,e4,e6⟩ := hz F W hW;clear hW;go_simp);go_frame)
   (first | (refine gm_val (v := ?_) (by rfl) ?_ (hm 6 (by decide)) ?_;rotate_left;(intro F W hF hW;obtain ⟨b0,b1,b2,b3,b4⟩ := hc F W hW;clear hW;go_simp;done);go_frame) | (refine gm_val (v := ?_) (by rfl) ?_ (hm 6 (by decide)) ?_;rotate_left;(intro F W hF hW;obtain ⟨b0,b1,b2,b3,b4⟩ := hc F W hW;clear hW;go_simp;with_reducible rfl);go_frame))
   (refine gm_step (F := fun W => (W.setCell ⟨db,3,none⟩ (.int .i64 o)).setCell ⟨db,4,none⟩ (.int .i64 n)) (by rfl) ?_ k7 ?_;(focus intro F W hF hW;obtain ⟨b0,b1,b2,b3,b4,b5,b6,e0,e1,e2,e3,e4,e6⟩ := hz F W hW;clear hW;go_simp);go_frame)
   refine gm_nil (fun W8 hW => ?_);clear k3 k5 k7 hz hc hm RB2 BD2 HT2 BS2 BA2 HM2 HB2;subst hS;obtain ⟨hbd,_,_,hbt,hbs,hm,hb⟩ := hW;have BD := am0 (show W8.heap[db]? = some (.cells #[.int .i64 k0, .int .i64 k1, .int .i64 k2, .int .i64 o, .int .i64 n, .int .i64 st, .bool true] 62 (0,0)) from hbd);have HT := am0 hbt;have BS := am0 hbs;have HM := am0 hm;have HB := am0 hb;clear hbd hbt hbs hm hb;go_upto_region 10 with (fail)
   have NTM : tb ≠ m1 := HM.out.ne HT.out;have NSM : sb ≠ m1 := HM.out.ne BS.out;have NDM : db ≠ m1 := HM.out.ne BD.out;obtain ⟨S,hS⟩ : ∃ S : (Nat → Bool) → World → Prop,S = fun F W' => (W'.heap[db]? = some (.cells #[.int .i64 k0, .int .i64 k1, .int .i64 k2, .int .i64 o, .int .i64 n, .int .i64 st, .bool true] 62 (0,0)) ∧ W'.heap[tb]? = some (.cells #[.map (some m1), .map (some m2)] 58 (0,0)) ∧ W'.heap[sb]? = some (.cells #[.string s0, .int .u8 s1, .bool s2, .int .i64 s3, .int .i64 s4, .int .i64 s5] 40 (0,0))) ∧ cond (F 7) (MapIs Tryd.prog 9 slit encD W' m1 (nn + 1) (upd f s0 ⟨k0,k1,k2,o,n,st,true⟩) ∧ w.grownBy W' (some m1)) (MapIs Tryd.prog 9 slit encD W' m1 nn f ∧ Below w.heap.size w W') := ⟨_,rfl⟩
   have hm : ∀ k,k ≠ 7 → ∀ F W,F k = false → S F W → S (upMark F k) W := by
    subst hS;intro k h7 F W _ hW;have e7 : upMark F k 7 = F 7 := if_neg (Ne.symm h7);simp only [e7];exact hW
   have hc : ∀ F W,S F W → W.cell? ⟨tb,0,none⟩ = some (.map (some m1)) ∧ W.cell? ⟨sb,0,none⟩ = some (.string s0) ∧ W.cell? ⟨db,0,none⟩ = some (.int .i64 k0) ∧ W.cell? ⟨db,1,none⟩ = some (.int .i64 k1) ∧ W.cell? ⟨db,2,none⟩ = some (.int .i64 k2) ∧ W.cell? ⟨db,3,none⟩ = some (.int .i64 o) ∧ W.cell? ⟨db,4,none⟩ = some (.int .i64 n) ∧ W.cell? ⟨db,5,none⟩ = some (.int .i64 st) ∧ W.cell? ⟨db,6,none⟩ = some (.bool true) := by
    subst hS
    rintro F W ⟨⟨h1,h2,h3⟩,_⟩
    exact ⟨(bx (vs := [.map (some m1), .map (some m2)]) h2 0 rfl).1,(bx (vs := [.string s0, .int .u8 s1, .bool s2, .int .i64 s3, .int .i64 s4, .int .i64 s5]) h3 0 rfl).1,(bx (vs := [.int .i64 k0, .int .i64 k1, .int .i64 k2, .int .i64 o, .int .i64 n, .int .i64 st, .bool true]) h1 0 rfl).1,(bx (vs := [.int .i64 k0, .int .i64 k1, .int .i64 k2, .int .i64 o, .int .i64 n, .int .i64 st, .bool true]) h1 1 rfl).1,(bx (vs := [.int .i64 k0, .int .i64 k1, .int .i64 k2, .int .i64 o, .int .i64 n, .int .i64 st, .bool true]) h1 2 rfl).1,(bx (vs := [.int .i64 k0, .int .i64 k1, .int .i64 k2, .int .i64 o, .int .i64 n, .int .i64 st, .bool true]) h1 3 rfl).1,(bx (vs := [.int .i64 k0, .int .i64 k1, .int .i64 k2, .int .i64 o, .int .i64 n, .int .i64 st, .bool true]) h1 4 rfl).1,(bx (vs := [.int .i64 k0, .int .i64 k1, .int .i64 k2, .int .i64 o, .int .i64 n, .int .i64 st, .bool true]) h1 5 rfl).1,(bx (vs := [.int .i64 k0, .int .i64 k1, .int .i64 k2, .int .i64 o, .int .i64 n, .int .i64 st, .bool true]) h1 6 rfl).1⟩
   have h7 : ∀ F W,F 7 = false → S F W → ∃ W',(Instr.mapUpdate 55 (.map (some m1)) (.string s0) (.agg #[.int .i64 k0, .int .i64 k1, .int .i64 k2, .int .i64 o, .int .i64 n, .int .i64 st, .bool true])).run Tryd.prog W = .ok () W' ∧ S (upMark F 7) W' := by
    subst hS
    rintro F W hF ⟨⟨h1,h2,h3⟩,hr⟩
    rw [hF] at hr;obtain ⟨hM,hB⟩ := hr;obtain ⟨W',hrun,hM',hg⟩ := hM.put encD_inj slit_inj KL Tryd.underlying55 hn KEY.out ⟨k0,k1,k2,o,n,st,true⟩;refine ⟨W',hrun,⟨blk_grown h1 hg (by intro h;exact NDM (Option.some.inj h)),blk_grown h2 hg (by intro h;exact NTM (Option.some.inj h)),blk_grown h3 hg (by intro h;exact NSM (Option.some.inj h))⟩, ?_⟩;exact ⟨hM',(World.grownBy.but ⟨hB.os,hB.tape,hB.output,hB.size,fun i hi _ => hB.block i hi⟩ (some m1)).trans hg⟩
   refine region_line S (by kernel_rfl) (by kernel_rfl) (by kernel_rfl) (by subst hS;have hd2 := below_drew1 (Below.refl W8.heap.size W8);exact ⟨⟨blk_below BD.out hd2,blk_below HT.out hd2,blk_below BS.out hd2⟩,HM.out.below hd2,below_drew1 HB.out⟩) ?_
   (first | (refine gm_val (v := ?_) (by rfl) ?_ (hm 0 (by decide)) ?_;rotate_left;(intro F W hF hW;clear hW;go_simp;done);go_frame) | (refine gm_val (v := ?_) (by rfl) ?_ (hm 0 (by decide)) ?_;rotate_left;(intro F W hF hW;clear hW;go_simp;with_reducible rfl);go_frame))
   (first | (refine gm_val (v := ?_) (by rfl) ?_ (hm 1 (by decide)) ?_;rotate_left;(intro F W hF hW;clear hW;go_simp;done);go_frame) | (refine gm_val (v := ?_) (by rfl) ?_ (hm 1 (by decide)) ?_;rotate_left;(intro F W hF hW;clear hW;go_simp;with_reducible rfl);go_frame))
   (first | (refine gm_val (v := ?_) (by rfl) ?_ (hm 2 (by decide)) ?_;rotate_left;(intro F W hF hW;clear hW;go_simp;done);go_frame) | (refine gm_val (v := ?_) (by rfl) ?_ (hm 2 (by decide)) ?_;rotate_left;(intro F W hF hW;clear hW;go_simp;with_reducible rfl);go_frame))
   (first | (refine gm_val (v := ?_) (by rfl) ?_ (hm 3 (by decide)) ?_;rotate_left;(intro F W hF hW;obtain ⟨c0,c1,c2,c3,c4,c5,c6,c7,c8⟩ := hc F W hW;clear hW;go_simp;done);go_frame) | (refine gm_val (v := ?_) (by rfl) ?_ (hm 3 (by decide)) ?_;rotate_left;(intro F W hF hW;obtain ⟨c0,c1,c2,c3,c4,c5,c6,c7,c8⟩ := hc F W hW;clear hW;go_simp;with_reducible rfl);go_frame))
   (first | (refine gm_val (v := ?_) (by rfl) ?_ (hm 4 (by decide)) ?_;rotate_left;(intro F W hF hW;clear hW;go_simp;done);go_frame) | (refine gm_val (v := ?_) (by rfl) ?_ (hm 4 (by decide)) ?_;rotate_left;(intro F W hF hW;clear hW;go_simp;with_reducible rfl);go_frame))
   (first | (refine gm_val (v := ?_) (by rfl) ?_ (hm 5 (by decide)) ?_;rotate_left;(intro F W hF hW;obtain ⟨c0,c1,c2,c3,c4,c5,c6,c7,c8⟩ := hc F W hW;clear hW;go_simp;done);go_frame) | (refine gm_val (v := ?_) (by rfl) ?_ (hm 5 (by decide)) ?_;rotate_left;(intro F W hF hW;obtain ⟨c0,c1,c2,c3,c4,c5,c6,c7,c8⟩ := hc F W hW;clear hW;go_simp;with_reducible rfl);go_frame))
   (first | (refine gm_val (v := ?_) (by rfl) ?_ (hm 6 (by decide)) ?_;rotate_left;(intro F W hF hW;obtain ⟨c0,c1,c2,c3,c4,c5,c6,c7,c8⟩ := hc F W hW;clear hW;go_simp;done);go_frame) | (refine gm_val (v := ?_) (by rfl) ?_ (hm 6 (by decide)) ?_;rotate_left;(intro F W hF hW;obtain ⟨c0,c1,c2,c3,c4,c5,c6,c7,c8⟩ := hc F W hW;clear hW;go_simp;with_reducible rfl);go_frame))
   (refine gm_stepE (by rfl) ?_ ?_;(focus intro F W hF hW;obtain ⟨W',hrun,hS'⟩ := h7 F W hF hW;refine ⟨W', ?_,hS'⟩;clear hS' hW;go_simp);go_frame)
   refine gm_nil (fun W9 hW => ?_);clear h7 hc hm;subst hS;obtain ⟨_,hM,hG⟩ := hW;have HE := am0 (And.intro hM hG);clear hM hG;go_wp2
   go_end0
   refine ⟨⟨_,rfl⟩, ?_,HE.out.2⟩;rw [HD.out,HP2.out];exact HE.out.1
  obtain ⟨cv,hcv⟩ : ∃ cv,cmpV [k0,k1,k2] [dr0,dr1,dr2] = cv := ⟨_,rfl⟩;rw [hcv] at HCM
  by_cases hpos : 0 < cv
  ·have HP2 := am0 (show putD ⟨s0,s1,s2,s3,s4,s5⟩ o n ⟨dr0,dr1,dr2,dO,dS,dst,true⟩ = ⟨k0,k1,k2,o,n,st,true⟩ by rw [HP.out,tailD,if_pos (.inr (by rw [hcv];exact hpos))])
   clear HP hcv;refine region_lit (S := fun W' => Below W.heap.size W W' ∧ W'.cell? ⟨db,6,none⟩ = some (.bool true)) (by kernel_rfl) (by kernel_rfl) (by kernel_rfl) ⟨below_drew1 (Below.refl W.heap.size W),HC.out _ (below_drew1 (Below.refl W.heap.size W))⟩ ?_;repeat (first | (refine gl_skip (by rfl) ?_;go_frame) | (refine gl_call (f := 38) (v := .int .i64 cv) rfl (by rfl) Tryd.func38 (by kernel_rfl) rfl (args := #[.slice (some ⟨rb,0,none⟩) 3 3, .slice (some ⟨db,0,none⟩) 3 3]) (by first | (simp only [List.map_toArray,List.map_cons,List.map_nil];done) | (simp only [List.map_toArray,List.map_cons,List.map_nil];rfl)) (fun W hW => (HCM.out W hW.1).mono (by rintro e w' ⟨rfl,hb⟩;exact ⟨rfl,below_step hW.1 hb,HC.out _ (below_step hW.1 hb)⟩)) ?_;go_frame) | (refine gl_val (v := ?_) (by rfl) ?_ ?_;rotate_left;(intro W hW;(try dsimp only at hW);go_simp;done);go_frame) | (refine gl_val (v := ?_) (by rfl) ?_ ?_;rotate_left;(intro W hW;(try dsimp only at hW);go_simp;with_reducible rfl);go_frame))
   refine gl_nil (fun W6 hW => ?_);replace RB2 := am0 (blk_below RB2.out hW.1);replace BD2 := am0 (blk_below BD2.out hW.1);replace HT2 := am0 (blk_below HT2.out hW.1);replace BS2 := am0 (blk_below BS2.out hW.1);replace BA2 := am0 (blk_below BA2.out hW.1);replace HM2 := am0 (HM2.out.below hW.1);replace HB2 := am0 (below_step HB2.out hW.1);clear hW HC;go_upto_region 9 with (fail)
   have NDR2 : rb ≠ db := fun h => NDR.out h.symm
   have NDA : ab ≠ db := NAD.out;obtain ⟨S,hS⟩ : ∃ S : (Nat → Bool) → World → Prop,S = fun F W' => W'.heap[db]? = some (.cells #[.int .i64 (cond (F 5) k0 dr0), .int .i64 (cond (F 5) k1 dr1), .int .i64 (cond (F 5) k2 dr2), .int .i64 (cond (F 7) o dO), .int .i64 (cond (F 7) n dS), .int .i64 st, .bool (cond (F 3) true true)] 62 (0,0)) ∧ W'.heap[rb]? = some (.cells #[.int .i64 k0, .int .i64 k1, .int .i64 k2] 60 (0,0)) ∧ W'.heap[ab]? = some (.cells #[.int .i64 o, .int .i64 n] 43 (0,0)) ∧ W'.heap[tb]? = some (.cells #[.map (some m1), .map (some m2)] 58 (0,0)) ∧ W'.heap[sb]? = some (.cells #[.string s0, .int .u8 s1, .bool s2, .int .i64 s3, .int .i64 s4, .int .i64 s5] 40 (0,0)) ∧ MapIs Tryd.prog 9 slit encD W' m1 nn f ∧ Below w.heap.size w W' := ⟨_,rfl⟩
   have hm : ∀ k,(k ≠ 3 ∧ k ≠ 5 ∧ k ≠ 7) → ∀ F W,F k = false → S F W → S (upMark F k) W := by
    subst hS
    rintro k ⟨h3,h5,h7⟩ F W _ hW
    have e3 : upMark F k 3 = F 3 := if_neg (Ne.symm h3);have e5 : upMark F k 5 = F 5 := if_neg (Ne.symm h5);have e7 : upMark F k 7 = F 7 := if_neg (Ne.symm h7);simp only [e3,e5,e7];exact hW
   have hc : ∀ F W,S F W → W.cell? ⟨rb,0,none⟩ = some (.int .i64 k0) ∧ W.cell? ⟨rb,1,none⟩ = some (.int .i64 k1) ∧ W.cell? ⟨rb,2,none⟩ = some (.int .i64 k2) ∧ W.cell? ⟨ab,0,none⟩ = some (.int .i64 o) ∧ W.cell? ⟨ab,1,none⟩ = some (.int .i64 n) := by
    subst hS
    rintro F W ⟨h1,h2,h3,h4,h5,h6,h7⟩
    exact ⟨(bx (vs := [.int .i64 k0, .int .i64 k1, .int .i64 k2]) h2 0 rfl).1,(bx (vs := [.int .i64 k0, .int .i64 k1, .int .i64 k2]) h2 1 rfl).1,(bx (vs := [.int .i64 k0, .int .i64 k1, .int .i64 k2]) h2 2 rfl).1,(bx (vs := [.int .i64 o, .int .i64 n]) h3 0 rfl).1,(bx (vs := [.int .i64 o, .int .i64 n]) h3 1 rfl).1⟩
   have hz : ∀ F W,S F W → W.cell? ⟨db,0,none⟩ = some (.int .i64 (cond (F 5) k0 dr0)) ∧ W.cell? ⟨db,1,none⟩ = some (.int .i64 (cond (F 5) k1 dr1)) ∧ W.cell? ⟨db,2,none⟩ = some (.int .i64 (cond (F 5) k2 dr2)) ∧ W.cell? ⟨db,3,none⟩ = some (.int .i64 (cond (F 7) o dO)) ∧ W.cell? ⟨db,4,none⟩ = some (.int .i64 (cond (F 7) n dS)) ∧ W.cell? ⟨db,5,none⟩ = some (.int .i64 st) ∧ W.cell? ⟨db,6,none⟩ = some (.bool (cond (F 3) true true)) ∧ W.frozen? ⟨db,0,none⟩ = false ∧ W.frozen? ⟨db,1,none⟩ = false ∧ W.frozen? ⟨db,2,none⟩ = false ∧ W.frozen? ⟨db,3,none⟩ = false ∧ W.frozen? ⟨db,4,none⟩ = false ∧ W.frozen? ⟨db,6,none⟩ = false := by
    subst hS
    rintro F W ⟨h1,h2,h3,h4,h5,h6,h7⟩
    exact ⟨(bx (vs := [.int .i64 (cond (F 5) k0 dr0), .int .i64 (cond (F 5) k1 dr1), .int .i64 (cond (F 5) k2 dr2), .int .i64 (cond (F 7) o dO), .int .i64 (cond (F 7) n dS), .int .i64 st, .bool (cond (F 3) true true)]) h1 0 rfl).1,(bx (vs := [.int .i64 (cond (F 5) k0 dr0), .int .i64 (cond (F 5) k1 dr1), .int .i64 (cond (F 5) k2 dr2), .int .i64 (cond (F 7) o dO), .int .i64 (cond (F 7) n dS), .int .i64 st, .bool (cond (F 3) true true)]) h1 1 rfl).1,(bx (vs := [.int .i64 (cond (F 5) k0 dr0), .int .i64 (cond (F 5) k1 dr1), .int .i64 (cond (F 5) k2 dr2), .int .i64 (cond (F 7) o dO), .int .i64 (cond (F 7) n dS), .int .i64 st, .bool (cond (F 3) true true)]) h1 2 rfl).1,(bx (vs := [.int .i64 (cond (F 5) k0 dr0), .int .i64 (cond (F 5) k1 dr1), .int .i64 (cond (F 5) k2 dr2), .int .i64 (cond (F 7) o dO), .int .i64 (cond (F 7) n dS), .int .i64 st, .bool (cond (F 3) true true)]) h1 3 rfl).1,(bx (vs := [.int .i64 (cond (F 5) k0 dr0), .int .i64 (cond (F 5) k1 dr1), .int .i64 (cond (F 5) k2 dr2), .int .i64 (cond (F 7) o dO), .int .i64 (cond (F 7) n dS), .int .i64 st, .bool (cond (F 3) true true)]) h1 4 rfl).1,(bx (vs := [.int .i64 (cond (F 5) k0 dr0), .int .i64 (cond (F 5) k1 dr1), .int .i64 (cond (F 5) k2 dr2), .int .i64 (cond (F 7) o dO), .int .i64 (cond (F 7) n dS), .int .i64 st, .bool (cond (F 3) true true)]) h1 5 rfl).1,(bx (vs := [.int .i64 (cond (F 5) k0 dr0), .int .i64 (cond (F 5) k1 dr1), .int .i64 (cond (F 5) k2 dr2), .int .i64 (cond (F 7) o dO), .int .i64 (cond (F 7) n dS), .int .i64 st, .bool (cond (F 3) true true)]) h1 6 rfl).1,(bx (vs := [.int .i64 (cond (F 5) k0 dr0), .int .i64 (cond (F 5) k1 dr1), .int .i64 (cond (F 5) k2 dr2), .int .i64 (cond (F 7) o dO), .int .i64 (cond (F 7) n dS), .int .i64 st, .bool (cond (F 3) true true)]) h1 0 rfl).2,(bx (vs := [.int .i64 (cond (F 5) k0 dr0), .int .i64 (cond (F 5) k1 dr1), .int .i64 (cond (F 5) k2 dr2), .int .i64 (cond (F 7) o dO), .int .i64 (cond (F 7) n dS), .int .i64 st, .bool (cond (F 3) true true)]) h1 1 rfl).2,(bx (vs := [.int .i64 (cond (F 5) k0 dr0), .int .i64 (cond (F 5) k1 dr1), .int .i64 (cond (F 5) k2 dr2), .int .i64 (cond (F 7) o dO), .int .i64 (cond (F 7) n dS), .int .i64 st, .bool (cond (F 3) true true)]) h1 2 rfl).2,(bx (vs := [.int .i64 (cond (F 5) k0 dr0), .int .i64 (cond (F 5) k1 dr1), .int .i64 (cond (F 5) k2 dr2), .int .i64 (cond (F 7) o dO), .int .i64 (cond (F 7) n dS), .int .i64 st, .bool (cond (F 3) true true)]) h1 3 rfl).2,(bx (vs := [.int .i64 (cond (F 5) k0 dr0), .int .i64 (cond (F 5) k1 dr1), .int .i64 (cond (F 5) k2 dr2), .int .i64 (cond (F 7) o dO), .int .i64 (cond (F 7) n dS), .int .i64 st, .bool (cond (F 3) true true)]) h1 4 rfl).2,(bx (vs := [.int .i64 (cond (F 5) k0 dr0), .int .i64 (cond (F 5) k1 dr1), .int .i64 (cond (F 5) k2 dr2), .int .i64 (cond (F 7) o dO), .int .i64 (cond (F 7) n dS), .int .i64 st, .bool (cond (F 3) true true)]) h1 6 rfl).2⟩
   have k3 : ∀ F W,F 3 = false → S F W → S (upMark F 3) (W.setCell ⟨db,6,none⟩ (.bool true)) := by
    subst hS
    rintro F W hF ⟨h1,h2,h3,h4,h5,h6,h7⟩
    exact ⟨(blk_set h1 _ _).trans rfl,(blk_far h2 NDR2 _),(blk_far h3 NDA _),(blk_far h4 NTD.out _),(blk_far h5 NSD.out _),(MapIs.setCell h6 NMD.out _),(below_set h7 LD.out)⟩
   have k5 : ∀ F W,F 5 = false → S F W → S (upMark F 5) (((W.setCell ⟨db,0,none⟩ (.int .i64 k0)).setCell ⟨db,1,none⟩ (.int .i64 k1)).setCell ⟨db,2,none⟩ (.int .i64 k2)) := by
    subst hS
    rintro F W hF ⟨h1,h2,h3,h4,h5,h6,h7⟩
    exact ⟨(blk_set (blk_set (blk_set h1 _ _) _ _) _ _).trans rfl,(blk_far (blk_far (blk_far h2 NDR2 _) NDR2 _) NDR2 _),(blk_far (blk_far (blk_far h3 NDA _) NDA _) NDA _),(blk_far (blk_far (blk_far h4 NTD.out _) NTD.out _) NTD.out _),(blk_far (blk_far (blk_far h5 NSD.out _) NSD.out _) NSD.out _),(MapIs.setCell (MapIs.setCell (MapIs.setCell h6 NMD.out _) NMD.out _) NMD.out _),(below_set (below_set (below_set h7 LD.out) LD.out) LD.out)⟩
   have k7 : ∀ F W,F 7 = false → S F W → S (upMark F 7) ((W.setCell ⟨db,3,none⟩ (.int .i64 o)).setCell ⟨db,4,none⟩ (.int .i64 n)) := by
    subst hS
    rintro F W hF ⟨h1,h2,h3,h4,h5,h6,h7⟩
    exact ⟨(blk_set (blk_set h1 _ _) _ _).trans rfl,(blk_far (blk_far h2 NDR2 _) NDR2 _),(blk_far (blk_far h3 NDA _) NDA _),(blk_far (blk_far h4 NTD.out _) NTD.out _),(blk_far (blk_far h5 NSD.out _) NSD.out _),(MapIs.setCell (MapIs.setCell h6 NMD.out _) NMD.out _),(below_set (below_set h7 LD.out) LD.out)⟩
   refine region_line S (by kernel_rfl) (by kernel_rfl) (by kernel_rfl) (by subst hS;have hd2 := below_drew1 (Below.refl W6.heap.size W6);exact ⟨blk_below BD2.out hd2,blk_below RB2.out hd2,blk_below BA2.out hd2,blk_below HT2.out hd2,blk_below BS2.out hd2,HM2.out.below hd2,below_drew1 HB2.out⟩) ?_
   (first | (refine gm_val (v := ?_) (by rfl) ?_ (hm 0 (by decide)) ?_;rotate_left;(intro F W hF hW;obtain ⟨b0,b1,b2,b3,b4⟩ := hc F W hW;clear hW;go_simp;done);go_frame) | (refine gm_val (v := ?_) (by rfl) ?_ (hm 0 (by decide)) ?_;rotate_left;(intro F W hF hW;obtain ⟨b0,b1,b2,b3,b4⟩ := hc F W hW;clear hW;go_simp;with_reducible rfl);go_frame))
   (first | (refine gm_val (v := ?_) (by rfl) ?_ (hm 1 (by decide)) ?_;rotate_left;(intro F W hF hW;obtain ⟨b0,b1,b2,b3,b4⟩ := hc F W hW;clear hW;go_simp;done);go_frame) | (refine gm_val (v := ?_) (by rfl) ?_ (hm 1 (by decide)) ?_;rotate_left;(intro F W hF hW;obtain ⟨b0,b1,b2,b3,b4⟩ := hc F W hW;clear hW;go_simp;with_reducible rfl);go_frame))
   (first | (refine gm_val (v := ?_) (by rfl) ?_ (hm 2 (by decide)) ?_;rotate_left;(intro F W hF hW;obtain ⟨b0,b1,b2,b3,b4⟩ := hc F W hW;clear hW;go_simp;done);go_frame) | (refine gm_val (v := ?_) (by rfl) ?_ (hm 2 (by decide)) ?_;rotate_left;(intro F W hF hW;obtain ⟨b0,b1,b2,b3,b4⟩ := hc F W hW;clear hW;go_simp;with_reducible rfl);go_frame))
   (refine gm_step (F := fun W => W.setCell ⟨db,6,none⟩ (.bool true)) (by rfl) ?_ k3 ?_;(focus intro F W hF hW;obtain ⟨b0,b1,b2,b3,b4,b5,b6,e0,e1,e2,e3,e4,e6⟩ := hz F W hW;clear hW;go_simp);go_frame)
   (first | (refine gm_val (v := ?_) (by rfl) ?_ (hm 4 (by decide)) ?_;rotate_left;(intro F W hF hW;obtain ⟨b0,b1,b2,b3,b4⟩ := hc F W hW;clear hW;go_simp;done);go_frame) | (refine gm_val (v := ?_) (by rfl) ?_ (hm 4 (by decide)) ?_;rotate_left;(intro F W hF hW;obtain ⟨b0,b1,b2,b3,b4⟩ := hc F W hW;clear hW;go_simp;with_reducible rfl);go_frame))
   (refine gm_step (F := fun W => ((W.setCell ⟨db,0,none⟩ (.int .i64 k0)).setCell ⟨db,1,none⟩ (.int .i64 k1)).setCell ⟨db,2,none⟩ (.int .i64 k2)) (by rfl) ?_ k5 ?_;(focus intro F W hF hW;obtain ⟨b0,b1,b2,b3,b4,b5,b6,e0,e1,e2,e3,e4,e6⟩ := hz F W hW;clear hW;go_simp);go_frame)
   (first | (refine gm_val (v := ?_) (by rfl) ?_ (hm 6 (by decide)) ?_;rotate_left;(intro F W hF hW;obtain ⟨b0,b1,b2,b3,b4⟩ := hc F W hW;clear hW;go_simp;done);go_frame) | (refine gm_val (v := ?_) (by rfl) ?_ (hm 6 (by decide)) ?_;rotate_left;(intro F W hF hW;obtain ⟨b0,b1,b2,b3,b4⟩ := hc F W hW;clear hW;go_simp;with_reducible rfl);go_frame))
   (refine gm_step (F := fun W => (W.setCell ⟨db,3,none⟩ (.int .i64 o)).setCell ⟨db,4,none⟩ (.int .i64 n)) (by rfl) ?_ k7 ?_;(focus intro F W hF hW;obtain ⟨b0,b1,b2,b3,b4,b5,b6,e0,e1,e2,e3,e4,e6⟩ := hz F W hW;clear hW;go_simp);go_frame)
   refine gm_nil (fun W8 hW => ?_);clear k3 k5 k7 hz hc hm RB2 BD2 HT2 BS2 BA2 HM2 HB2;subst hS;obtain ⟨hbd,_,_,hbt,hbs,hm,hb⟩ := hW;have BD := am0 (show W8.heap[db]? = some (.cells #[.int .i64 k0, .int .i64 k1, .int .i64 k2, .int .i64 o, .int .i64 n, .int .i64 st, .bool true] 62 (0,0)) from hbd);have HT := am0 hbt;have BS := am0 hbs;have HM := am0 hm;have HB := am0 hb;clear hbd hbt hbs hm hb;go_upto_region 10 with (fail)
   have NTM : tb ≠ m1 := HM.out.ne HT.out;have NSM : sb ≠ m1 := HM.out.ne BS.out;have NDM : db ≠ m1 := HM.out.ne BD.out;obtain ⟨S,hS⟩ : ∃ S : (Nat → Bool) → World → Prop,S = fun F W' => (W'.heap[db]? = some (.cells #[.int .i64 k0, .int .i64 k1, .int .i64 k2, .int .i64 o, .int .i64 n, .int .i64 st, .bool true] 62 (0,0)) ∧ W'.heap[tb]? = some (.cells #[.map (some m1), .map (some m2)] 58 (0,0)) ∧ W'.heap[sb]? = some (.cells #[.string s0, .int .u8 s1, .bool s2, .int .i64 s3, .int .i64 s4, .int .i64 s5] 40 (0,0))) ∧ cond (F 7) (MapIs Tryd.prog 9 slit encD W' m1 (nn + 1) (upd f s0 ⟨k0,k1,k2,o,n,st,true⟩) ∧ w.grownBy W' (some m1)) (MapIs Tryd.prog 9 slit encD W' m1 nn f ∧ Below w.heap.size w W') := ⟨_,rfl⟩
   have hm : ∀ k,k ≠ 7 → ∀ F W,F k = false → S F W → S (upMark F k) W := by
    subst hS;intro k h7 F W _ hW;have e7 : upMark F k 7 = F 7 := if_neg (Ne.symm h7);simp only [e7];exact hW
   have hc : ∀ F W,S F W → W.cell? ⟨tb,0,none⟩ = some (.map (some m1)) ∧ W.cell? ⟨sb,0,none⟩ = some (.string s0) ∧ W.cell? ⟨db,0,none⟩ = some (.int .i64 k0) ∧ W.cell? ⟨db,1,none⟩ = some (.int .i64 k1) ∧ W.cell? ⟨db,2,none⟩ = some (.int .i64 k2) ∧ W.cell? ⟨db,3,none⟩ = some (.int .i64 o) ∧ W.cell? ⟨db,4,none⟩ = some (.int .i64 n) ∧ W.cell? ⟨db,5,none⟩ = some (.int .i64 st) ∧ W.cell? ⟨db,6,none⟩ = some (.bool true) := by
    subst hS
    rintro F W ⟨⟨h1,h2,h3⟩,_⟩
    exact ⟨(bx (vs := [.map (some m1), .map (some m2)]) h2 0 rfl).1,(bx (vs := [.string s0, .int .u8 s1, .bool s2, .int .i64 s3, .int .i64 s4, .int .i64 s5]) h3 0 rfl).1,(bx (vs := [.int .i64 k0, .int .i64 k1, .int .i64 k2, .int .i64 o, .int .i64 n, .int .i64 st, .bool true]) h1 0 rfl).1,(bx (vs := [.int .i64 k0, .int .i64 k1, .int .i64 k2, .int .i64 o, .int .i64 n, .int .i64 st, .bool true]) h1 1 rfl).1,(bx (vs := [.int .i64 k0, .int .i64 k1, .int .i64 k2, .int .i64 o, .int .i64 n, .int .i64 st, .bool true]) h1 2 rfl).1,(bx (vs := [.int .i64 k0, .int .i64 k1, .int .i64 k2, .int .i64 o, .int .i64 n, .int .i64 st, .bool true]) h1 3 rfl).1,(bx (vs := [.int .i64 k0, .int .i64 k1, .int .i64 k2, .int .i64 o, .int .i64 n, .int .i64 st, .bool true]) h1 4 rfl).1,(bx (vs := [.int .i64 k0, .int .i64 k1, .int .i64 k2, .int .i64 o, .int .i64 n, .int .i64 st, .bool true]) h1 5 rfl).1,(bx (vs := [.int .i64 k0, .int .i64 k1, .int .i64 k2, .int .i64 o, .int .i64 n, .int .i64 st, .bool true]) h1 6 rfl).1⟩
   have h7 : ∀ F W,F 7 = false → S F W → ∃ W',(Instr.mapUpdate 55 (.map (some m1)) (.string s0) (.agg #[.int .i64 k0, .int .i64 k1, .int .i64 k2, .int .i64 o, .int .i64 n, .int .i64 st, .bool true])).run Tryd.prog W = .ok () W' ∧ S (upMark F 7) W' := by
    subst hS
    rintro F W hF ⟨⟨h1,h2,h3⟩,hr⟩
    rw [hF] at hr;obtain ⟨hM,hB⟩ := hr;obtain ⟨W',hrun,hM',hg⟩ := hM.put encD_inj slit_inj KL Tryd.underlying55 hn KEY.out ⟨k0,k1,k2,o,n,st,true⟩;refine ⟨W',hrun,⟨blk_grown h1 hg (by intro h;exact NDM (Option.some.inj h)),blk_grown h2 hg (by intro h;exact NTM (Option.some.inj h)),blk_grown h3 hg (by intro h;exact NSM (Option.some.inj h))⟩, ?_⟩;exact ⟨hM',(World.grownBy.but ⟨hB.os,hB.tape,hB.output,hB.size,fun i hi _ => hB.block i hi⟩ (some m1)).trans hg⟩
   refine region_line S (by kernel_rfl) (by kernel_rfl) (by kernel_rfl) (by subst hS;have hd2 := below_drew1 (Below.refl W8.heap.size W8);exact ⟨⟨blk_below BD.out hd2,blk_below HT.out hd2,blk_below BS.out hd2⟩,HM.out.below hd2,below_drew1 HB.out⟩) ?_
   (first | (refine gm_val (v := ?_) (by rfl) ?_ (hm 0 (by decide)) ?_;rotate_left;(intro F W hF hW;clear hW;go_simp;done);go_frame) | (refine gm_val (v := ?_) (by rfl) ?_ (hm 0 (by decide)) ?_;rotate_left;(intro F W hF hW;clear hW;go_simp;with_reducible rfl);go_frame))
   (first | (refine gm_val (v := ?_) (by rfl) ?_ (hm 1 (by decide)) ?_;rotate_left;(intro F W hF hW;clear hW;go_simp;done);go_frame) | (refine gm_val (v := ?_) (by rfl) ?_ (hm 1 (by decide)) ?_;rotate_left;(intro F W hF hW;clear hW;go_simp;with_reducible rfl);go_frame))
   (first | (refine gm_val (v := ?_) (by rfl) ?_ (hm 2 (by decide)) ?_;rotate_left;(intro F W hF hW;clear hW;go_simp;done);go_frame) | (refine gm_val (v := ?_) (by rfl) ?_ (hm 2 (by decide)) ?_;rotate_left;(intro F W hF hW;clear hW;go_simp;with_reducible rfl);go_frame))
   (first | (refine gm_val (v := ?_) (by rfl) ?_ (hm 3 (by decide)) ?_;rotate_left;(intro F W hF hW;obtain ⟨c0,c1,c2,c3,c4,c5,c6,c7,c8⟩ := hc F W hW;clear hW;go_simp;done);go_frame) | (refine gm_val (v := ?_) (by rfl) ?_ (hm 3 (by decide)) ?_;rotate_left;(intro F W hF hW;obtain ⟨c0,c1,c2,c3,c4,c5,c6,c7,c8⟩ := hc F W hW;clear hW;go_simp;with_reducible rfl);go_frame))
   (first | (refine gm_val (v := ?_) (by rfl) ?_ (hm 4 (by decide)) ?_;rotate_left;(intro F W hF hW;clear hW;go_simp;done);go_frame) | (refine gm_val (v := ?_) (by rfl) ?_ (hm 4 (by decide)) ?_;rotate_left;(intro F W hF hW;clear hW;go_simp;with_reducible rfl);go_frame))
   (first | (refine gm_val (v := ?_) (by rfl) ?_ (hm 5 (by decide)) ?_;rotate_left;(intro F W hF hW;obtain ⟨c0,c1,c2,c3,c4,c5,c6,c7,c8⟩ := hc F W hW;clear hW;go_simp;done);go_frame) | (refine gm_val (v := ?_) (by rfl) ?_ (hm 5 (by decide)) ?_;rotate_left;(intro F W hF hW;obtain ⟨c0,c1,c2,c3,c4,c5,c6,c7,c8⟩ := hc F W hW;clear hW;go_simp;with_reducible rfl);go_frame))
   (first | (refine gm_val (v := ?_) (by rfl) ?_ (hm 6 (by decide)) ?_;rotate_left;(intro F W hF hW;obtain ⟨c0,c1,c2,c3,c4,c5,c6,c7,c8⟩ := hc F W hW;clear hW;go_simp;done);go_frame) | (refine gm_val (v := ?_) (by rfl) ?_ (hm 6 (by decide)) ?_;rotate_left;(intro F W hF hW;obtain ⟨c0,c1,c2,c3,c4,c5,c6,c7,c8⟩ := hc F W hW;clear hW;go_simp;with_reducible rfl);go_frame))
   (refine gm_stepE (by rfl) ?_ ?_;(focus intro F W hF hW;obtain ⟨W',hrun,hS'⟩ := h7 F W hF hW;refine ⟨W', ?_,hS'⟩;clear hS' hW;go_simp);go_frame)
   refine gm_nil (fun W9 hW => ?_);clear h7 hc hm;subst hS;obtain ⟨_,hM,hG⟩ := hW;have HE := am0 (And.intro hM hG);clear hM hG;go_wp2
   go_end0
   refine ⟨⟨_,rfl⟩, ?_,HE.out.2⟩;rw [HD.out,HP2.out];exact HE.out.1
  have HP2 := am0 (show putD ⟨s0,s1,s2,s3,s4,s5⟩ o n ⟨dr0,dr1,dr2,dO,dS,dst,true⟩ = ⟨dr0,dr1,dr2,dO,dS,st,true⟩ by rw [HP.out,tailD,if_neg (by rintro (h | h) <;> first | (cases h;done) | exact hpos (by rw [← hcv];exact h))]);clear HP hcv;refine region_lit (S := fun W' => Below W.heap.size W W' ∧ W'.cell? ⟨db,6,none⟩ = some (.bool true)) (by kernel_rfl) (by kernel_rfl) (by kernel_rfl) ⟨below_drew1 (Below.refl W.heap.size W),HC.out _ (below_drew1 (Below.refl W.heap.size W))⟩ ?_;repeat (first | (refine gl_skip (by rfl) ?_;go_frame) | (refine gl_call (f := 38) (v := .int .i64 cv) rfl (by rfl) Tryd.func38 (by kernel_rfl) rfl (args := #[.slice (some ⟨rb,0,none⟩) 3 3, .slice (some ⟨db,0,none⟩) 3 3]) (by first | (simp only [List.map_toArray,List.map_cons,List.map_nil];done) | (simp only [List.map_toArray,List.map_cons,List.map_nil];rfl)) (fun W hW => (HCM.out W hW.1).mono (by rintro e w' ⟨rfl,hb⟩;exact ⟨rfl,below_step hW.1 hb,HC.out _ (below_step hW.1 hb)⟩)) ?_;go_frame) | (refine gl_val (v := ?_) (by rfl) ?_ ?_;rotate_left;(intro W hW;(try dsimp only at hW);go_simp;done);go_frame) | (refine gl_val (v := ?_) (by rfl) ?_ ?_;rotate_left;(intro W hW;(try dsimp only at hW);go_simp;with_reducible rfl);go_frame))
  refine gl_nil (fun W6 hW => ?_);replace RB2 := am0 (blk_below RB2.out hW.1);replace BD2 := am0 (blk_below BD2.out hW.1);replace HT2 := am0 (blk_below HT2.out hW.1);replace BS2 := am0 (blk_below BS2.out hW.1);replace BA2 := am0 (blk_below BA2.out hW.1);replace HM2 := am0 (HM2.out.below hW.1);replace HB2 := am0 (below_step HB2.out hW.1);clear hW HC;go_upto_region 10 with (fail)
  have NTM : tb ≠ m1 := HM2.out.ne HT2.out;have NSM : sb ≠ m1 := HM2.out.ne BS2.out;have NDM : db ≠ m1 := HM2.out.ne BD2.out;obtain ⟨S,hS⟩ : ∃ S : (Nat → Bool) → World → Prop,S = fun F W' => (W'.heap[db]? = some (.cells #[.int .i64 dr0, .int .i64 dr1, .int .i64 dr2, .int .i64 dO, .int .i64 dS, .int .i64 st, .bool true] 62 (0,0)) ∧ W'.heap[tb]? = some (.cells #[.map (some m1), .map (some m2)] 58 (0,0)) ∧ W'.heap[sb]? = some (.cells #[.string s0, .int .u8 s1, .bool s2, .int .i64 s3, .int .i64 s4, .int .i64 s5] 40 (0,0))) ∧ cond (F 7) (MapIs Tryd.prog 9 slit encD W' m1 (nn + 1) (upd f s0 ⟨dr0,dr1,dr2,dO,dS,st,true⟩) ∧ w.grownBy W' (some m1)) (MapIs Tryd.prog 9 slit encD W' m1 nn f ∧ Below w.heap.size w W') := ⟨_,rfl⟩
  have hm : ∀ k,k ≠ 7 → ∀ F W,F k = false → S F W → S (upMark F k) W := by
   subst hS;intro k h7 F W _ hW;have e7 : upMark F k 7 = F 7 := if_neg (Ne.symm h7);simp only [e7];exact hW
  have hc : ∀ F W,S F W → W.cell? ⟨tb,0,none⟩ = some (.map (some m1)) ∧ W.cell? ⟨sb,0,none⟩ = some (.string s0) ∧ W.cell? ⟨db,0,none⟩ = some (.int .i64 dr0) ∧ W.cell? ⟨db,1,none⟩ = some (.int .i64 dr1) ∧ W.cell? ⟨db,2,none⟩ = some (.int .i64 dr2) ∧ W.cell? ⟨db,3,none⟩ = some (.int .i64 dO) ∧ W.cell? ⟨db,4,none⟩ = some (.int .i64 dS) ∧ W.cell? ⟨db,5,none⟩ = some (.int .i64 st) ∧ W.cell? ⟨db,6,none⟩ = some (.bool true) := by
   subst hS
   rintro F W ⟨⟨h1,h2,h3⟩,_⟩
   exact ⟨(bx (vs := [.map (some m1), .map (some m2)]) h2 0 rfl).1,(bx (vs := [.string s0, .int .u8 s1, .bool s2, .int .i64 s3, .int .i64 s4, .int .i64 s5]) h3 0 rfl).1,(bx (vs := [.int .i64 dr0, .int .i64 dr1, .int .i64 dr2, .int .i64 dO, .int .i64 dS, .int .i64 st, .bool true]) h1 0 rfl).1,(bx (vs := [.int .i64 dr0, .int .i64 dr1, .int .i64 dr2, .int .i64 dO, .int .i64 dS, .int .i64 st, .bool true]) h1 1 rfl).1,(bx (vs := [.int .i64 dr0, .int .i64 dr1, .int .i64 dr2, .int .i64 dO, .int .i64 dS, .int .i64 st, .bool true]) h1 2 rfl).1,(bx (vs := [.int .i64 dr0, .int .i64 dr1, .int .i64 dr2, .int .i64 dO, .int .i64 dS, .int .i64 st, .bool true]) h1 3 rfl).1,(bx (vs := [.int .i64 dr0, .int .i64 dr1, .int .i64 dr2, .int .i64 dO, .int .i64 dS, .int .i64 st, .bool true]) h1 4 rfl).1,(bx (vs := [.int .i64 dr0, .int .i64 dr1, .int .i64 dr2, .int .i64 dO, .int .i64 dS, .int .i64 st, .bool true]) h1 5 rfl).1,(bx (vs := [.int .i64 dr0, .int .i64 dr1, .int .i64 dr2, .int .i64 dO, .int .i64 dS, .int .i64 st, .bool true]) h1 6 rfl).1⟩
  have h7 : ∀ F W,F 7 = false → S F W → ∃ W',(Instr.mapUpdate 55 (.map (some m1)) (.string s0) (.agg #[.int .i64 dr0, .int .i64 dr1, .int .i64 dr2, .int .i64 dO, .int .i64 dS, .int .i64 st, .bool true])).run Tryd.prog W = .ok () W' ∧ S (upMark F 7) W' := by
   subst hS
   rintro F W hF ⟨⟨h1,h2,h3⟩,hr⟩
   rw [hF] at hr;obtain ⟨hM,hB⟩ := hr;obtain ⟨W',hrun,hM',hg⟩ := hM.put encD_inj slit_inj KL Tryd.underlying55 hn KEY.out ⟨dr0,dr1,dr2,dO,dS,st,true⟩;refine ⟨W',hrun,⟨blk_grown h1 hg (by intro h;exact NDM (Option.some.inj h)),blk_grown h2 hg (by intro h;exact NTM (Option.some.inj h)),blk_grown h3 hg (by intro h;exact NSM (Option.some.inj h))⟩, ?_⟩;exact ⟨hM',(World.grownBy.but ⟨hB.os,hB.tape,hB.output,hB.size,fun i hi _ => hB.block i hi⟩ (some m1)).trans hg⟩
  refine region_line S (by kernel_rfl) (by kernel_rfl) (by kernel_rfl) (by subst hS;have hd2 := below_drew1 (Below.refl W6.heap.size W6);exact ⟨⟨blk_below BD2.out hd2,blk_below HT2.out hd2,blk_below BS2.out hd2⟩,HM2.out.below hd2,below_drew1 HB2.out⟩) ?_
  (first | (refine gm_val (v := ?_) (by rfl) ?_ (hm 0 (by decide)) ?_;rotate_left;(intro F W hF hW;clear hW;go_simp;done);go_frame) | (refine gm_val (v := ?_) (by rfl) ?_ (hm 0 (by decide)) ?_;rotate_left;(intro F W hF hW;clear hW;go_simp;with_reducible rfl);go_frame))
  (first | (refine gm_val (v := ?_) (by rfl) ?_ (hm 1 (by decide)) ?_;rotate_left;(intro F W hF hW;clear hW;go_simp;done);go_frame) | (refine gm_val (v := ?_) (by rfl) ?_ (hm 1 (by decide)) ?_;rotate_left;(intro F W hF hW;clear hW;go_simp;with_reducible rfl);go_frame))
  (first | (refine gm_val (v := ?_) (by rfl) ?_ (hm 2 (by decide)) ?_;rotate_left;(intro F W hF hW;clear hW;go_simp;done);go_frame) | (refine gm_val (v := ?_) (by rfl) ?_ (hm 2 (by decide)) ?_;rotate_left;(intro F W hF hW;clear hW;go_simp;with_reducible rfl);go_frame))
  (first | (refine gm_val (v := ?_) (by rfl) ?_ (hm 3 (by decide)) ?_;rotate_left;(intro F W hF hW;obtain ⟨c0,c1,c2,c3,c4,c5,c6,c7,c8⟩ := hc F W hW;clear hW;go_simp;done);go_frame) | (refine gm_val (v := ?_) (by rfl) ?_ (hm 3 (by decide)) ?_;rotate_left;(intro F W hF hW;obtain ⟨c0,c1,c2,c3,c4,c5,c6,c7,c8⟩ := hc F W hW;clear hW;go_simp;with_reducible rfl);go_frame))
  (first | (refine gm_val (v := ?_) (by rfl) ?_ (hm 4 (by decide)) ?_;rotate_left;(intro F W hF hW;clear hW;go_simp;done);go_frame) | (refine gm_val (v := ?_) (by rfl) ?_ (hm 4 (by decide)) ?_;rotate_left;(intro F W hF hW;clear hW;go_simp;with_reducible rfl);go_frame))
  (first | (refine gm_val (v := ?_) (by rfl) ?_ (hm 5 (by decide)) ?_;rotate_left;(intro F W hF hW;obtain ⟨c0,c1,c2,c3,c4,c5,c6,c7,c8⟩ := hc F W hW;clear hW;go_simp;done);go_frame) | (refine gm_val (v := ?_) (by rfl) ?_ (hm 5 (by decide)) ?_;rotate_left;(intro F W hF hW;obtain ⟨c0,c1,c2,c3,c4,c5,c6,c7,c8⟩ := hc F W hW;clear hW;go_simp;with_reducible rfl);go_frame))
  (first | (refine gm_val (v := ?_) (by rfl) ?_ (hm 6 (by decide)) ?_;rotate_left;(intro F W hF hW;obtain ⟨c0,c1,c2,c3,c4,c5,c6,c7,c8⟩ := hc F W hW;clear hW;go_simp;done);go_frame) | (refine gm_val (v := ?_) (by rfl) ?_ (hm 6 (by decide)) ?_;rotate_left;(intro F W hF hW;obtain ⟨c0,c1,c2,c3,c4,c5,c6,c7,c8⟩ := hc F W hW;clear hW;go_simp;with_reducible rfl);go_frame))
  (refine gm_stepE (by rfl) ?_ ?_;(focus intro F W hF hW;obtain ⟨W',hrun,hS'⟩ := h7 F W hF hW;refine ⟨W', ?_,hS'⟩;clear hS' hW;go_simp);go_frame)
  refine gm_nil (fun W9 hW => ?_);clear h7 hc hm;subst hS;obtain ⟨_,hM,hG⟩ := hW;have HE := am0 (And.intro hM hG);clear hM hG;go_wp2
  go_end0
  refine ⟨⟨_,rfl⟩, ?_,HE.out.2⟩;rw [HD.out,HP2.out];exact HE.out.1
end Go.Proofs.YtalomolellcefaaDoor.Q
namespace Go.Proofs.YtalomolellcefaaDoor.Q
open Go.RowKit Go.Proofs.YtalomolellcefaaDoorW.PrintWords Go.Proofs.YtalomolellcefaaDoorW.PrintLast Go.Proofs.YtalomolellcefaaDoorW.PrintMore
attribute [local go_sem] max2_int min2_int max_two min_two
def resolve_gone.f (a0_0 : Int) (a0_1 : Int) (l0_2 : List (S72)) (l0_3 : List (S40)) (l0_4 : List (S94)) (l0_5 : List (S68)) (l0_6 : List Bool) (a1_0 : ByteArray) (a1_1 : Int) (a1_2 : Bool) (a1_3 : Int) (a1_4 : Int) (a1_5 : Int) : Option (Bool) := if a1_3 > 0 then (if 0 ≤ (wrap64 (a1_3 - 1)) then (if (wrap64 (a1_3 - 1)) < (l0_6.length : Int) then (some (!(rdOf false l0_6 (wrap64 (a1_3 - 1))))) else (none)) else (none)) else (some false)
set_option maxHeartbeats 8000000 in
set_option maxRecDepth 100000 in
theorem resolve_gone.calls (a0_0 : Int) (a0_1 : Int) (A0_2 : Option Addr) (c0_2 : Nat) (l0_2 : List (S72)) (A0_3 : Option Addr) (c0_3 : Nat) (l0_3 : List (S40)) (A0_4 : Option Addr) (c0_4 : Nat) (l0_4 : List (S94)) (A0_5 : Option Addr) (c0_5 : Nat) (l0_5 : List (S68)) (A0_6 : Option Addr) (c0_6 : Nat) (l0_6 : List Bool) (a1_0 : ByteArray) (a1_1 : Int) (a1_2 : Bool) (a1_3 : Int) (a1_4 : Int) (a1_5 : Int) (r : Bool) (w : World) (hr0_2 : Kd.C k72 w A0_2 l0_2.length l0_2) (hc0_2 : l0_2.length ≤ c0_2) (hr0_3 : Kd.C k40 w A0_3 l0_3.length l0_3) (hc0_3 : l0_3.length ≤ c0_3) (hr0_4 : Kd.C k94 w A0_4 l0_4.length l0_4) (hc0_4 : l0_4.length ≤ c0_4) (hr0_5 : Kd.C k68 w A0_5 l0_5.length l0_5) (hc0_5 : l0_5.length ≤ c0_5) (hr0_6 : Kd.C Kd.bool w A0_6 l0_6.length l0_6) (hc0_6 : l0_6.length ≤ c0_6) (h : resolve_gone.f a0_0 a0_1 l0_2 l0_3 l0_4 l0_5 l0_6 a1_0 a1_1 a1_2 a1_3 a1_4 a1_5 = some r) :
  Calls Tryd.prog 24 #[.agg #[.int .i64 a0_0, .int .i64 a0_1, .slice A0_2 l0_2.length c0_2, .slice A0_3 l0_3.length c0_3, .slice A0_4 l0_4.length c0_4, .slice A0_5 l0_5.length c0_5, .slice A0_6 l0_6.length c0_6], .agg #[.string a1_0, .int .u8 a1_1, .bool a1_2, .int .i64 a1_3, .int .i64 a1_4, .int .i64 a1_5]] w fun e w' => e = .returned (.bool r) ∧ Below w.heap.size w w' := by
 have hu38 := Tryd.underlying38;have hu40 := Tryd.underlying40;have HR0_2 := am0 hr0_2;have HC0_2 := am0 hc0_2;clear hr0_2 hc0_2;have HR0_3 := am0 hr0_3;have HC0_3 := am0 hc0_3;clear hr0_3 hc0_3;have HR0_4 := am0 hr0_4;have HC0_4 := am0 hc0_4;clear hr0_4 hc0_4;have HR0_5 := am0 hr0_5;have HC0_5 := am0 hc0_5;clear hr0_5 hc0_5;have HR0_6 := am0 hr0_6;have HC0_6 := am0 hc0_6;clear hr0_6 hc0_6;have HB := am0 (Below.refl w.heap.size w);have H : (if a1_3 > 0 then (if 0 ≤ (wrap64 (a1_3 - 1)) then (if (wrap64 (a1_3 - 1)) < (l0_6.length : Int) then (some (!(rdOf false l0_6 (wrap64 (a1_3 - 1))))) else (none)) else (none)) else (some false)) = some r := h;clear h
 by_cases c3 : a1_3 > 0
 ·rw [if_pos c3] at H
  have c3b0 : decide (0 < a1_3) = true := decide_eq_true c3;clear c3;obtain ⟨ji4,hji4⟩ : ∃ j_ : Int,(wrap64 (a1_3 - 1)) = j_ := ⟨_,rfl⟩;replace H : (if 0 ≤ (ji4) then (if (ji4) < (l0_6.length : Int) then (some (!(rdOf false l0_6 (ji4)))) else (none)) else (none)) = some r := by first | (rw [hji4] at H;exact H) | (simp only [hji4] at H ⊢;exact H)
  have hji4w : (IntKind.i64.wrap (a1_3 - 1)) = ji4 := (i64_w _).trans hji4
  by_cases c5 : 0 ≤ (ji4)
  ·rw [if_pos c5] at H
   have c5b0 : decide (0 ≤ (ji4)) = true := decide_eq_true c5;clear c5
   by_cases c6 : (ji4) < (l0_6.length : Int)
   ·rw [if_pos c6] at H
    have c6b0 : decide ((ji4) < (l0_6.length : Int)) = true := decide_eq_true c6;clear c6;obtain rfl := Option.some.inj H;go_enter Tryd.func24,Tryd.ntmps24
    go_wp2_with (first | ((with_reducible refine gate_dst (N := 2) rfl ?_);refine box_event ?hg (N := 2) ?hd (cs := #[.int .i64 a0_0, .int .i64 a0_1, .slice A0_2 l0_2.length c0_2, .slice A0_3 l0_3.length c0_3, .slice A0_4 l0_4.length c0_4, .slice A0_5 l0_5.length c0_5, .slice A0_6 l0_6.length c0_6]) (t := 38) ?hr ?_;(case hd => rfl);(case hg => rfl);(case hr => first | (go_simp;done) | (go_simp;rfl));intro gb463 hg w7 hbox hb;have n0_ := am0 (below_step (by repeat (first | (with_reducible first | exact HB.out | apply below_alloc | apply pw_below_drewN | apply below_drew1) | exact HB.out)) hb);have n1_ := am0 (hbox);have n2_ := am0 ((by rw [hg];exact (below_size (by repeat (first | (with_reducible first | exact HB.out | apply below_alloc | apply pw_below_drewN | apply below_drew1) | exact HB.out))) : w.heap.size ≤ gb463));have n3_ := am0 ((by rw [hg];exact (below_size (by repeat (first | (with_reducible first | exact HB.out | apply below_alloc | apply pw_below_drewN | apply below_drew1) | exact HB.out))) : w.heap.size ≤ gb463));clear HB;have HB := n0_;have BK463 := n1_;have GW463 := n2_;have GE463 := n3_;clear n0_ n1_ n2_ n3_;clear hb hbox hg) | ((with_reducible refine gate_dst (N := 3) rfl ?_);refine box_event ?hg (N := 3) ?hd (cs := #[.string a1_0, .int .u8 a1_1, .bool a1_2, .int .i64 a1_3, .int .i64 a1_4, .int .i64 a1_5]) (t := 40) ?hr ?_;(case hd => rfl);(case hg => rfl);(case hr => first | (go_simp;done) | (go_simp;rfl));intro gb464 hg w8 hbox hb;have n0_ := am0 (blk_below (g := gb463) (o := .cells #[.int .i64 a0_0, .int .i64 a0_1, .slice A0_2 l0_2.length c0_2, .slice A0_3 l0_3.length c0_3, .slice A0_4 l0_4.length c0_4, .slice A0_5 l0_5.length c0_5, .slice A0_6 l0_6.length c0_6] 38 (0,0)) (by (with_reducible repeat (first | refine blk_drewN ?_ _ | refine blk_drew ?_ | refine blk_alloc ?_ _));exact BK463.out) hb);have n1_ := am0 (below_step (by repeat (first | (with_reducible first | exact HB.out | apply below_alloc | apply pw_below_drewN | apply below_drew1 | refine below_set ?_ GE463.out) | exact HB.out)) hb);have n2_ := am0 (hbox);have n3_ := am0 ((by rw [hg];exact (below_size (by repeat (first | (with_reducible first | exact HB.out | apply below_alloc | apply pw_below_drewN | apply below_drew1 | refine below_set ?_ GE463.out) | exact HB.out))) : w.heap.size ≤ gb464));have n4_ := am0 ((by rw [hg];exact (below_size (by repeat (first | (with_reducible first | exact HB.out | apply below_alloc | apply pw_below_drewN | apply below_drew1 | refine below_set ?_ GE463.out) | exact HB.out))) : w.heap.size ≤ gb464));have n5_ := am0 ((by rw [hg];exact Nat.ne_of_lt (blk_lt (g := gb463) (o := .cells #[.int .i64 a0_0, .int .i64 a0_1, .slice A0_2 l0_2.length c0_2, .slice A0_3 l0_3.length c0_3, .slice A0_4 l0_4.length c0_4, .slice A0_5 l0_5.length c0_5, .slice A0_6 l0_6.length c0_6] 38 (0,0)) (by (with_reducible repeat (first | refine blk_drewN ?_ _ | refine blk_drew ?_ | refine blk_alloc ?_ _));exact BK463.out)) : gb463 ≠ gb464));have n6_ := am0 ((by rw [hg];exact Nat.ne_of_gt (blk_lt (g := gb463) (o := .cells #[.int .i64 a0_0, .int .i64 a0_1, .slice A0_2 l0_2.length c0_2, .slice A0_3 l0_3.length c0_3, .slice A0_4 l0_4.length c0_4, .slice A0_5 l0_5.length c0_5, .slice A0_6 l0_6.length c0_6] 38 (0,0)) (by (with_reducible repeat (first | refine blk_drewN ?_ _ | refine blk_drew ?_ | refine blk_alloc ?_ _));exact BK463.out)) : gb464 ≠ gb463));clear BK463;clear HB;have BK463 := n0_;have HB := n1_;have BK464 := n2_;have GW464 := n3_;have GE464 := n4_;have NB463_464 := n5_;have NB464_463 := n6_;clear n0_ n1_ n2_ n3_ n4_ n5_ n6_;clear hb hbox hg;have hnb9 := NB464_463.out;have hnc9 := NB463_464.out;have hcz10_0 : w8.cell? ⟨gb464,0,none⟩ = some (.string a1_0) := (blk_cell BK464.out 0).trans rfl;have hcz10_1 : w8.cell? ⟨gb464,1,none⟩ = some (.int .u8 a1_1) := (blk_cell BK464.out 1).trans rfl;have hcz10_2 : w8.cell? ⟨gb464,2,none⟩ = some (.bool a1_2) := (blk_cell BK464.out 2).trans rfl;have hcz10_3 : w8.cell? ⟨gb464,3,none⟩ = some (.int .i64 a1_3) := (blk_cell BK464.out 3).trans rfl;have hcz10_4 : w8.cell? ⟨gb464,4,none⟩ = some (.int .i64 a1_4) := (blk_cell BK464.out 4).trans rfl;have hcz10_5 : w8.cell? ⟨gb464,5,none⟩ = some (.int .i64 a1_5) := (blk_cell BK464.out 5).trans rfl;have hfz10_0 := blk_frozen BK464.out 0;have hfz10_1 := blk_frozen BK464.out 1;have hfz10_2 := blk_frozen BK464.out 2;have hfz10_3 := blk_frozen BK464.out 3;have hfz10_4 := blk_frozen BK464.out 4;have hfz10_5 := blk_frozen BK464.out 5;have hcz11_0 : w8.cell? ⟨gb463,0,none⟩ = some (.int .i64 a0_0) := (blk_cell BK463.out 0).trans rfl;have hcz11_1 : w8.cell? ⟨gb463,1,none⟩ = some (.int .i64 a0_1) := (blk_cell BK463.out 1).trans rfl;have hcz11_2 : w8.cell? ⟨gb463,2,none⟩ = some (.slice A0_2 l0_2.length c0_2) := (blk_cell BK463.out 2).trans rfl;have hcz11_3 : w8.cell? ⟨gb463,3,none⟩ = some (.slice A0_3 l0_3.length c0_3) := (blk_cell BK463.out 3).trans rfl;have hcz11_4 : w8.cell? ⟨gb463,4,none⟩ = some (.slice A0_4 l0_4.length c0_4) := (blk_cell BK463.out 4).trans rfl;have hcz11_5 : w8.cell? ⟨gb463,5,none⟩ = some (.slice A0_5 l0_5.length c0_5) := (blk_cell BK463.out 5).trans rfl;have hcz11_6 : w8.cell? ⟨gb463,6,none⟩ = some (.slice A0_6 l0_6.length c0_6) := (blk_cell BK463.out 6).trans rfl;have hfz11_0 := blk_frozen BK463.out 0;have hfz11_1 := blk_frozen BK463.out 1;have hfz11_2 := blk_frozen BK463.out 2;have hfz11_3 := blk_frozen BK463.out 3;have hfz11_4 := blk_frozen BK463.out 4;have hfz11_5 := blk_frozen BK463.out 5;have hfz11_6 := blk_frozen BK463.out 6;have p465 : 0 ≤ ((ji4) : Int) := of_decide_eq_true (by first | (with_reducible assumption) | assumption);have q465 : (ji4) < (l0_6.length : Int) := of_decide_eq_true (by first | (with_reducible assumption) | assumption);obtain ⟨ad465,e465,hx465_0⟩ := Kd.at_bool HR0_6.out (ji4) p465 q465;cases e465;replace hx465_0 := (HB.out.cell (World.block_lt_of_cell? w _ hx465_0)).trans hx465_0;replace p465 := eq_true p465;replace q465 := eq_true q465))
    go_ret
    exact ⟨by first | rfl | (simp [errW_none,errW_some] <;> rfl) | (simp only [← hji4];first | rfl | (simp [errW_none,errW_some] <;> rfl)) | (simp [*,errW_none,errW_some] <;> rfl),by repeat (first | (with_reducible first | exact HB.out | apply below_alloc | apply pw_below_drewN | apply below_drew1 | refine below_set ?_ GE463.out | refine below_set ?_ GE464.out) | exact HB.out)⟩
   rw [if_neg c6] at H;exact absurd H (by simp)
  rw [if_neg c5] at H;exact absurd H (by simp)
 rw [if_neg c3] at H;have c3b0 : decide (0 < a1_3) = false := decide_eq_false c3;clear c3;obtain rfl := Option.some.inj H;go_enter Tryd.func24,Tryd.ntmps24
 go_wp2_with (first | ((with_reducible refine gate_dst (N := 2) rfl ?_);refine box_event ?hg (N := 2) ?hd (cs := #[.int .i64 a0_0, .int .i64 a0_1, .slice A0_2 l0_2.length c0_2, .slice A0_3 l0_3.length c0_3, .slice A0_4 l0_4.length c0_4, .slice A0_5 l0_5.length c0_5, .slice A0_6 l0_6.length c0_6]) (t := 38) ?hr ?_;(case hd => rfl);(case hg => rfl);(case hr => first | (go_simp;done) | (go_simp;rfl));intro gb463 hg w12 hbox hb;have n0_ := am0 (below_step (by repeat (first | (with_reducible first | exact HB.out | apply below_alloc | apply pw_below_drewN | apply below_drew1) | exact HB.out)) hb);have n1_ := am0 (hbox);have n2_ := am0 ((by rw [hg];exact (below_size (by repeat (first | (with_reducible first | exact HB.out | apply below_alloc | apply pw_below_drewN | apply below_drew1) | exact HB.out))) : w.heap.size ≤ gb463));have n3_ := am0 ((by rw [hg];exact (below_size (by repeat (first | (with_reducible first | exact HB.out | apply below_alloc | apply pw_below_drewN | apply below_drew1) | exact HB.out))) : w.heap.size ≤ gb463));clear HB;have HB := n0_;have BK463 := n1_;have GW463 := n2_;have GE463 := n3_;clear n0_ n1_ n2_ n3_;clear hb hbox hg) | ((with_reducible refine gate_dst (N := 3) rfl ?_);refine box_event ?hg (N := 3) ?hd (cs := #[.string a1_0, .int .u8 a1_1, .bool a1_2, .int .i64 a1_3, .int .i64 a1_4, .int .i64 a1_5]) (t := 40) ?hr ?_;(case hd => rfl);(case hg => rfl);(case hr => first | (go_simp;done) | (go_simp;rfl));intro gb464 hg w13 hbox hb;have n0_ := am0 (blk_below (g := gb463) (o := .cells #[.int .i64 a0_0, .int .i64 a0_1, .slice A0_2 l0_2.length c0_2, .slice A0_3 l0_3.length c0_3, .slice A0_4 l0_4.length c0_4, .slice A0_5 l0_5.length c0_5, .slice A0_6 l0_6.length c0_6] 38 (0,0)) (by (with_reducible repeat (first | refine blk_drewN ?_ _ | refine blk_drew ?_ | refine blk_alloc ?_ _));exact BK463.out) hb);have n1_ := am0 (below_step (by repeat (first | (with_reducible first | exact HB.out | apply below_alloc | apply pw_below_drewN | apply below_drew1 | refine below_set ?_ GE463.out) | exact HB.out)) hb);have n2_ := am0 (hbox);have n3_ := am0 ((by rw [hg];exact (below_size (by repeat (first | (with_reducible first | exact HB.out | apply below_alloc | apply pw_below_drewN | apply below_drew1 | refine below_set ?_ GE463.out) | exact HB.out))) : w.heap.size ≤ gb464));have n4_ := am0 ((by rw [hg];exact (below_size (by repeat (first | (with_reducible first | exact HB.out | apply below_alloc | apply pw_below_drewN | apply below_drew1 | refine below_set ?_ GE463.out) | exact HB.out))) : w.heap.size ≤ gb464));have n5_ := am0 ((by rw [hg];exact Nat.ne_of_lt (blk_lt (g := gb463) (o := .cells #[.int .i64 a0_0, .int .i64 a0_1, .slice A0_2 l0_2.length c0_2, .slice A0_3 l0_3.length c0_3, .slice A0_4 l0_4.length c0_4, .slice A0_5 l0_5.length c0_5, .slice A0_6 l0_6.length c0_6] 38 (0,0)) (by (with_reducible repeat (first | refine blk_drewN ?_ _ | refine blk_drew ?_ | refine blk_alloc ?_ _));exact BK463.out)) : gb463 ≠ gb464));have n6_ := am0 ((by rw [hg];exact Nat.ne_of_gt (blk_lt (g := gb463) (o := .cells #[.int .i64 a0_0, .int .i64 a0_1, .slice A0_2 l0_2.length c0_2, .slice A0_3 l0_3.length c0_3, .slice A0_4 l0_4.length c0_4, .slice A0_5 l0_5.length c0_5, .slice A0_6 l0_6.length c0_6] 38 (0,0)) (by (with_reducible repeat (first | refine blk_drewN ?_ _ | refine blk_drew ?_ | refine blk_alloc ?_ _));exact BK463.out)) : gb464 ≠ gb463));clear BK463;clear HB;have BK463 := n0_;have HB := n1_;have BK464 := n2_;have GW464 := n3_;have GE464 := n4_;have NB463_464 := n5_;have NB464_463 := n6_;clear n0_ n1_ n2_ n3_ n4_ n5_ n6_;clear hb hbox hg;have hnb14 := NB464_463.out;have hnc14 := NB463_464.out;have hcz15_0 : w13.cell? ⟨gb464,0,none⟩ = some (.string a1_0) := (blk_cell BK464.out 0).trans rfl;have hcz15_1 : w13.cell? ⟨gb464,1,none⟩ = some (.int .u8 a1_1) := (blk_cell BK464.out 1).trans rfl;have hcz15_2 : w13.cell? ⟨gb464,2,none⟩ = some (.bool a1_2) := (blk_cell BK464.out 2).trans rfl;have hcz15_3 : w13.cell? ⟨gb464,3,none⟩ = some (.int .i64 a1_3) := (blk_cell BK464.out 3).trans rfl;have hcz15_4 : w13.cell? ⟨gb464,4,none⟩ = some (.int .i64 a1_4) := (blk_cell BK464.out 4).trans rfl;have hcz15_5 : w13.cell? ⟨gb464,5,none⟩ = some (.int .i64 a1_5) := (blk_cell BK464.out 5).trans rfl;have hfz15_0 := blk_frozen BK464.out 0;have hfz15_1 := blk_frozen BK464.out 1;have hfz15_2 := blk_frozen BK464.out 2;have hfz15_3 := blk_frozen BK464.out 3;have hfz15_4 := blk_frozen BK464.out 4;have hfz15_5 := blk_frozen BK464.out 5))
 go_ret
 exact ⟨by first | rfl | (simp [errW_none,errW_some] <;> rfl) | (simp [*,errW_none,errW_some] <;> rfl),by repeat (first | (with_reducible first | exact HB.out | apply below_alloc | apply pw_below_drewN | apply below_drew1 | refine below_set ?_ GE463.out | refine below_set ?_ GE464.out) | exact HB.out)⟩
end Go.Proofs.YtalomolellcefaaDoor.Q
namespace Go.Proofs.YtalomolellcefaaDoor.Q
open Go.RowKit Go.Proofs.YtalomolellcefaaDoorW.PrintWords Go.Proofs.YtalomolellcefaaDoorW.PrintLast Go.Proofs.YtalomolellcefaaDoorW.PrintMore Go.Proofs.YtalomolellcefaaDoor.Maps
def goneV (k : S38) (s : S40) : Bool := decide (0 < s.f3) && !(rdOf false k.f3 (s.f3 - 1))
abbrev Tab := (ByteArray → Option DefV) × (ByteArray → Option Int)
def symStep (k : S38) (i n : Int) (t : Tab) (s : S40) : Tab :=
 if s.f1 = 0 then t
 else if s.f3 ≠ 0 ∧ goneV k s = false then (upd t.1 s.f0 (putD s i n ((t.1 s.f0).getD zD)),t.2)
 else if s.f1 = 1 then (t.1,upd t.2 s.f0 (wrap64 ((t.2 s.f0).getD 0 + 1))) else t
def symsRun (k : S38) (i : Int) : Nat → Tab → List S40 → Tab
 | _,t,[] => t
 | n,t,s :: l => symsRun k i (n + 1) (symStep k i n t s) l
def readGo : Nat → Tab → List S38 → Tab
 | _,t,[] => t
 | i,t,k :: l => readGo (i + 1) (symsRun k i 0 t k.f2.f1) l
def readV (l : List S38) : Tab := readGo 0 (fun _ => none,fun _ => none) l
def ReadFit (k : S38) : Prop := k.f2.f1.length ≤ 64 ∧ ∀ s ∈ k.f2.f1,s.f0.size ≤ 32 ∧ s.f3 ≤ (k.f3.length : Int)
theorem gone_val (k : S38) (s : S40) (h : s.f3 ≤ (k.f3.length : Int)) (hl : k.f3.length ≤ 9223372036854775807) : resolve_gone.f k.f0 k.f1 k.f2.f0 k.f2.f1 k.f2.f2 k.f2.f3 k.f3 s.f0 s.f1 s.f2 s.f3 s.f4 s.f5 = some (goneV k s) := by
 unfold resolve_gone.f goneV
 by_cases c : s.f3 > 0
 ·have hw : wrap64 (s.f3 - 1) = s.f3 - 1 := by unfold wrap64;omega
  have d0 : 0 ≤ s.f3 - 1 := by omega
  have d1 : s.f3 - 1 < (k.f3.length : Int) := by omega
  have c' : 0 < s.f3 := c;have c2 : 1 ≤ s.f3 := c;simp [c,c',c2,hw,d0,d1]
 have c' : ¬ 0 < s.f3 := c;simp [c,c']
structure RS (w W : World) (ob tb m1 m2 N : Nat) (t : Tab) : Prop where
 ob : W.heap[ob]? = some (.cells #[.map none, .map none] 58 (0,0))
 tb : W.heap[tb]? = some (.cells #[.map (some m1), .map (some m2)] 58 (0,0))
 m1 : MapIs Tryd.prog 9 slit encD W m1 N t.1
 m2 : MapIs Tryd.prog 9 slit (Value.int .i64) W m2 N t.2
 hb : Below w.heap.size w W
section
variable {w W W' : World} {ob tb m1 m2 N : Nat} {t : Tab}
theorem RS.below (h : RS w W ob tb m1 m2 N t) (hb : Below W.heap.size W W') : RS w W' ob tb m1 m2 N t :=
 ⟨blk_below h.ob hb,blk_below h.tb hb,h.m1.below hb,h.m2.below hb,below_step h.hb hb⟩
theorem RS.mono (h : RS w W ob tb m1 m2 N t) {M : Nat} (hn : N ≤ M) : RS w W ob tb m1 m2 M t := ⟨h.ob,h.tb,h.m1.mono hn,h.m2.mono hn,h.hb⟩
theorem RS.put1 (h : RS w W ob tb m1 m2 N t) (hne : m1 ≠ m2) (h1 : w.heap.size ≤ m1) {f : ByteArray → Option DefV} (hM : MapIs Tryd.prog 9 slit encD W' m1 (N + 1) f) (hg : W.grownBy W' (some m1)) : RS w W' ob tb m1 m2 (N + 1) (f,t.2) :=
 ⟨blk_grown h.ob hg (by intro e;exact h.m1.ne h.ob (Option.some.inj e)),blk_grown h.tb hg (by intro e;exact h.m1.ne h.tb (Option.some.inj e)),hM,(h.m2.kept hg (by intro e;exact hne (Option.some.inj e).symm)).mono (Nat.le_succ N),ev_grown h.hb hg (by intro b hb;cases hb;exact h1)⟩
theorem RS.put2 (h : RS w W ob tb m1 m2 N t) (hne : m1 ≠ m2) (h2 : w.heap.size ≤ m2) {f : ByteArray → Option Int} (hM : MapIs Tryd.prog 9 slit (Value.int .i64) W' m2 (N + 1) f) (hg : W.grownBy W' (some m2)) : RS w W' ob tb m1 m2 (N + 1) (t.1,f) :=
 ⟨blk_grown h.ob hg (by intro e;exact h.m2.ne h.ob (Option.some.inj e)),blk_grown h.tb hg (by intro e;exact h.m2.ne h.tb (Option.some.inj e)),(h.m1.kept hg (by intro e;exact hne (Option.some.inj e))).mono (Nat.le_succ N),hM,ev_grown h.hb hg (by intro b hb;cases hb;exact h2)⟩
end
set_option maxHeartbeats 2000000 in
set_option maxRecDepth 100000 in
theorem read_calls (A0 : Option Addr) (c0 : Nat) (l0 : List (S38)) (w : World) (hr0 : Kd.C k38 w A0 l0.length l0) (hl : l0.length ≤ 64) (hf : ∀ k ∈ l0,ReadFit k) :
  Calls Tryd.prog 22 #[.slice A0 l0.length c0] w fun e w' => ∃ m1 m2 : Nat,e = .returned (.agg #[.map (some m1), .map (some m2)]) ∧ w.heap.size ≤ m1 ∧ w.heap.size ≤ m2 ∧ m1 ≠ m2 ∧ MapIs Tryd.prog 9 slit encD w' m1 4096 (readV l0).1 ∧ MapIs Tryd.prog 9 slit (Value.int .i64) w' m2 4096 (readV l0).2 ∧ Below w.heap.size w w' := by
 have hu35 := Tryd.underlying35;have hu38 := Tryd.underlying38;have hu40 := Tryd.underlying40;have hu58 := Tryd.underlying58;have KL : Go.Maps.Keyed Tryd.prog 9 := Go.Maps.string_keyed Tryd.underlying9;have HF := am0 hf;have HC := am0 hr0;clear hf hr0;obtain ⟨R,hR⟩ : ∃ R,readV l0 = R := ⟨_,rfl⟩;rw [hR];have HR := am0 hR;clear hR;go_enter Tryd.func22,Tryd.ntmps22
 go_upto_region 1 with (fail)
 generalize hw1 : World.alloc _ _ = w1;obtain ⟨hbox,hb⟩ := alloc_facts hw1;have OB := am0 hbox;have HB := am0 hb;have LO := am0 (Nat.le_refl w.heap.size);clear hw1 hbox hb
 go_upto_region 2 with (first
  | ((with_reducible refine gate_dst (N := 8) rfl ?_);refine map_event rfl _ 9 slit encD rfl ?_;intro m1 hg w2 hm hb;have M1 := am0 hm;have L1 := am0 (show w.heap.size ≤ m1 by rw [hg];exact below_size HB.out);have OB2 := am0 (blk_below OB.out hb);have HB2 := am0 (below_step HB.out hb);clear hm hb hg)
  | ((with_reducible refine gate_dst (N := 9) rfl ?_);refine map_event rfl _ 9 slit (Value.int .i64) rfl ?_;intro m2 hg w3 hm hb;have M2 := am0 hm;have L2 := am0 (show w.heap.size ≤ m2 by rw [hg];exact below_size HB2.out);have N12 := am0 (show m1 ≠ m2 by rw [hg];exact Nat.ne_of_lt M1.out.lt);have M12 := am0 (M1.out.below hb);have OB3 := am0 (blk_below OB2.out hb);have HB3 := am0 (below_step HB2.out hb);clear hm hb hg))
 generalize hw4 : World.alloc _ _ = w4;obtain ⟨hbox,hb⟩ := alloc_facts hw4;have HS : Aside0 (RS w w4 w.heap.size w3.heap.size m1 m2 0 (fun _ => none,fun _ => none)) := ⟨⟨blk_below OB3.out hb,hbox,M12.out.below hb,M2.out.below hb,below_step HB3.out hb⟩⟩;clear hw4 hbox hb OB OB2 OB3 M1 M12 M2 HB HB2 HB3;generalize w3.heap.size = tb at HS ⊢;obtain ⟨ob,hob⟩ : ∃ ob,w.heap.size = ob := ⟨_,rfl⟩;rw [hob] at HS;have LO := am0 (show w.heap.size ≤ ob by rw [hob];exact Nat.le_refl _);simp only [hob];have HOB := am0 hob;clear hob;go_wp2
 go_loopw [13] (fun vi wr => ∃ (i : Nat) (t : Tab),i ≤ l0.length ∧ vi = .int .i64 (i : Int) ∧ Aside0 (readGo i t (l0.drop i) = R) ∧ Aside0 (RS w wr ob tb m1 m2 (i * 64) t)) (fun vi _ => l0.length - (intOf vi).toNat)
 case atStart => exact ⟨0,_,by omega,rfl,HR,HS⟩
 case round =>
  clear HS HR;obtain ⟨i,t,hi,rfl,HT,HS⟩ := hrel
  by_cases hlt : i < l0.length
  ·obtain ⟨ad,A2,c2,A3,c3,A4,c4,A5,c5,A6,c6,eA,x0,x1,x2,x3,x4,x5,x6,q⟩ := at_T38 HC.out (i : Int) (by omega) (by omega)
   subst eA;rw [show ((i : Int)).toNat = i from rfl] at x0 x1 x2 x3 x4 x5 x6;replace x0 := cell_keep HS.out.hb x0;replace x1 := cell_keep HS.out.hb x1;replace x2 := cell_keep HS.out.hb x2;replace x3 := cell_keep HS.out.hb x3;replace x4 := cell_keep HS.out.hb x4;replace x5 := cell_keep HS.out.hb x5;replace x6 := cell_keep HS.out.hb x6;have hnum : (i : Int) < (l0.length : Int) := by omega
   have Q := am0 q;clear q;go_upto_region 5 with (fail)
   clear x0 x1 x2 x3 x4 x5 x6;generalize hw3 : World.alloc _ _ = w5;obtain ⟨hbox,hb⟩ := alloc_facts hw3;replace HS := am0 (HS.out.below hb);clear hw3 hb;generalize wr.heap.size = kb at hbox ⊢;have HK := am0 hbox;clear hbox;have hdrop : l0.drop i = rd_T38 l0 (i : Int) :: l0.drop (i + 1) := drop_get z38 hlt
   have hmem : rd_T38 l0 (i : Int) ∈ l0 := by
    have : rd_T38 l0 (i : Int) ∈ l0.drop i := by rw [hdrop];exact List.mem_cons_self
    exact List.mem_of_mem_drop this
   have hfit := HF.out _ hmem;have hpure := HT.out;rw [hdrop] at hpure;have hq := Q.out;clear hmem hdrop HT Q;generalize rd_T38 l0 (i : Int) = kk at HK hpure hfit hq ⊢;obtain ⟨k0,k1,⟨secs,syms,relas,groups⟩,sects⟩ := kk
   dsimp only [ReadFit] at HK hfit hq ⊢;obtain ⟨l2,g2,l3,g3,l4,g4,l5,g5,l6,g6⟩ := hq;have hsl := g6.2.1;have hn64 := hfit.1;have HFS := am0 hfit.2;have HP := am0 (show readGo (i + 1) (symsRun ⟨k0,k1,⟨secs,syms,relas,groups⟩,sects⟩ i 0 t syms) (l0.drop (i + 1)) = R from hpure);have HG := am0 (fun (s : S40) (hs : s.f3 ≤ (sects.length : Int)) (W : World) (hW : Below w.heap.size w W) => resolve_gone.calls k0 k1 A2 c2 secs A3 c3 syms A4 c4 relas A5 c5 groups A6 c6 sects s.f0 s.f1 s.f2 s.f3 s.f4 s.f5 _ W (Kd.C_below g2 hW) l2 (Kd.C_below g3 hW) l3 (Kd.C_below g4 hW) l4 (Kd.C_below g5 hW) l5 (Kd.C_below g6 hW) l6 (gone_val ⟨k0,k1,⟨secs,syms,relas,groups⟩,sects⟩ s hs hsl));have G3 := am0 g3;clear g2 g3 g4 g5 g6 l2 l3 l4 l5 l6 hpure hfit hsl;obtain ⟨q3,_⟩ := bx (vs := [.int .i64 k0, .int .i64 k1, .slice A2 secs.length c2, .slice A3 syms.length c3, .slice A4 relas.length c4, .slice A5 groups.length c5, .slice A6 sects.length c6]) HK.out 3 rfl;obtain ⟨T,hT⟩ : ∃ T,symsRun ⟨k0,k1,⟨secs,syms,relas,groups⟩,sects⟩ i 0 t syms = T := ⟨_,rfl⟩;rw [hT] at HP;have HTT := am0 hT;clear hT;go_wp2
   go_loopw [22] (fun vj wj => ∃ (j : Nat) (t2 : Tab),j ≤ syms.length ∧ vj = .int .i64 (j : Int) ∧ Aside0 (symsRun ⟨k0,k1,⟨secs,syms,relas,groups⟩,sects⟩ i j t2 (syms.drop j) = T) ∧ Aside0 (RS w wj ob tb m1 m2 (i * 64 + j) t2) ∧ Aside0 (wj.heap[kb]? = some (.cells #[.int .i64 k0, .int .i64 k1, .slice A2 secs.length c2, .slice A3 syms.length c3, .slice A4 relas.length c4, .slice A5 groups.length c5, .slice A6 sects.length c6] 38 (0,0)))) (fun vj _ => syms.length - (intOf vj).toNat)
   case atStart => exact ⟨0,t,by omega,rfl,HTT,HS,HK⟩
   case round =>
    clear HS HK HTT q3;obtain ⟨j,t2,hj,rfl,HTT,HS,HK⟩ := hrel
    by_cases hlj : j < syms.length
    ·obtain ⟨ad3,e3,x0,x1,x2,x3,x4,x5⟩ := at_T40 G3.out (j : Int) (by omega) (by omega)
     subst e3;rw [show ((j : Int)).toNat = j from rfl] at x0 x1 x2 x3 x4 x5;replace x0 := cell_keep HS.out.hb x0;replace x1 := cell_keep HS.out.hb x1;replace x2 := cell_keep HS.out.hb x2;replace x3 := cell_keep HS.out.hb x3;replace x4 := cell_keep HS.out.hb x4;replace x5 := cell_keep HS.out.hb x5;have hnj : (j : Int) < (syms.length : Int) := by omega
     go_upto_region 8 with (fail)
     clear x0 x1 x2 x3 x4 x5;generalize hw3 : World.alloc _ _ = w6;obtain ⟨hbox,hb⟩ := alloc_facts hw3;replace HS := am0 (HS.out.below hb);replace HK := am0 (blk_below HK.out hb);clear hw3 hb;generalize wr.heap.size = sb at hbox ⊢;have HY := am0 hbox;clear hbox;have hdj : syms.drop j = rd_T40 syms (j : Int) :: syms.drop (j + 1) := drop_get z40 hlj
     have hmem : rd_T40 syms (j : Int) ∈ syms := by
      have : rd_T40 syms (j : Int) ∈ syms.drop j := by rw [hdj];exact List.mem_cons_self
      exact List.mem_of_mem_drop this
     obtain ⟨hsz,hwh⟩ := HFS.out _ hmem;have hst := HTT.out;rw [hdj] at hst;have HGS := am0 (HG.out _ hwh);clear hmem hdj HTT;generalize rd_T40 syms (j : Int) = ss at HY hsz hwh hst HGS ⊢;obtain ⟨s0,s1,s2,s3,s4,s5⟩ := ss
     dsimp only at HY hsz hwh HGS ⊢;have HST := am0 (show symsRun ⟨k0,k1,⟨secs,syms,relas,groups⟩,sects⟩ i (j + 1) (symStep ⟨k0,k1,⟨secs,syms,relas,groups⟩,sects⟩ i j t2 ⟨s0,s1,s2,s3,s4,s5⟩) (syms.drop (j + 1)) = T from hst);clear hst;have HKY := am0 (WideMaps.keyOf_string_mk (P := Tryd.prog) Tryd.underlying9 (s := s0) (by simp only [maxLen];omega));have hm : i * 64 + j < maxLen := by simp only [maxLen];omega
     obtain ⟨yy,_⟩ := bx (vs := [.string s0, .int .u8 s1, .bool s2, .int .i64 s3, .int .i64 s4, .int .i64 s5]) HY.out 1 rfl;obtain ⟨yw,_⟩ := bx (vs := [.string s0, .int .u8 s1, .bool s2, .int .i64 s3, .int .i64 s4, .int .i64 s5]) HY.out 3 rfl
     by_cases h1 : s1 = 0
     ·have e1 : (s1 == 0) = true := by simp [h1]
      have HN := am0 (show symsRun ⟨k0,k1,⟨secs,syms,relas,groups⟩,sects⟩ i (j + 1) t2 (syms.drop (j + 1)) = T by
       rw [← HST.out]
       congr 1
       rw [symStep,if_pos h1])
      clear h1;go_wp2
      all_goals
       go_roundw
       case rel => exact ⟨j + 1,t2,by omega,by go_num,HN,⟨HS.out.mono (by omega)⟩,HK⟩
       case measure => simp [intOf];omega
     have e1 : (s1 == 0) = false := by simp [h1]
     have H1 := am0 h1;clear h1
     by_cases h3 : s3 = 0
     ·have e3 : (s3 != 0) = false := by simp [h3]
      have H3 := am0 h3;clear h3
      by_cases h4 : s1 = 1
      ·have e4 : (s1 == 1) = true := by simp [h4]
       have HN := am0 (show symsRun ⟨k0,k1,⟨secs,syms,relas,groups⟩,sects⟩ i (j + 1) (t2.1,upd t2.2 s0 (wrap64 ((t2.2 s0).getD 0 + 1))) (syms.drop (j + 1)) = T by
        rw [← HST.out]
        congr 1
        rw [symStep,if_neg H1.out,if_neg (fun h => h.1 H3.out),if_pos h4])
       clear h4;go_upto_region 12 with (fail)
       have RB := HS;obtain ⟨t1,_⟩ := bx (vs := [.map (some m1), .map (some m2)]) RB.out.tb 1 rfl;obtain ⟨y0,_⟩ := bx (vs := [.string s0, .int .u8 s1, .bool s2, .int .i64 s3, .int .i64 s4, .int .i64 s5]) HY.out 0 rfl
       go_wp2_with (first
        | ((with_reducible refine gate_dst (N := 54) rfl ?_);refine wpList_look _ rfl (.tmp 51) (.tmp 53) 56 rfl (K := 9) (e := 3) slit (Value.int .i64) (Go.Proofs.YtalomolellcefaaDoor.Maps.int_inj IntKind.i64) KL Tryd.underlying56 0 (Tryd.zeroValue3 _) m2 (i * 64 + j) t2.2 rfl RB.out.m2 (.string s0) s0 rfl HKY.out ?_)
        | (refine wpList_put _ rfl (.tmp 51) (.tmp 53) (.tmp 55) 56 rfl (K := 9) (e := 3) slit slit_inj (Value.int .i64) (Go.Proofs.YtalomolellcefaaDoor.Maps.int_inj IntKind.i64) KL Tryd.underlying56 m2 (i * 64 + j) hm t2.2 rfl RB.out.m2 (.string s0) s0 rfl HKY.out (wrap64 ((t2.2 s0).getD 0 + 1)) rfl ?_;intro w9 hM hgr;have RS9 := am0 (RB.out.put2 N12.out L2.out hM hgr);have K9 := am0 (blk_grown HK.out hgr (by intro e;exact RB.out.m2.ne HK.out (Option.some.inj e)));clear hM hgr))
       all_goals
        go_roundw
        case rel => exact ⟨j + 1,(t2.1,upd t2.2 s0 (wrap64 ((t2.2 s0).getD 0 + 1))),by omega,by go_num,HN,⟨RS9.out.mono (by omega)⟩,K9⟩
        case measure => simp [intOf];omega
      have e4 : (s1 == 1) = false := by simp [h4]
      have HN := am0 (show symsRun ⟨k0,k1,⟨secs,syms,relas,groups⟩,sects⟩ i (j + 1) t2 (syms.drop (j + 1)) = T by
       rw [← HST.out]
       congr 1
       rw [symStep,if_neg H1.out,if_neg (fun h => h.1 H3.out),if_neg h4])
      clear h4;go_wp2
      all_goals
       go_roundw
       case rel => exact ⟨j + 1,t2,by omega,by go_num,HN,⟨RS.mono HS.out (by omega)⟩,HK⟩
       case measure => simp [intOf];omega
     have e3 : (s3 != 0) = true := by simp [h3]
     have H3 := am0 h3;clear h3;obtain ⟨gv,hgv⟩ : ∃ gv,goneV ⟨k0,k1,⟨secs,syms,relas,groups⟩,sects⟩ ⟨s0,s1,s2,s3,s4,s5⟩ = gv := ⟨_,rfl⟩;rw [hgv] at HGS;have HGV := am0 hgv;clear hgv;obtain ⟨z0,_⟩ := bx (vs := [.int .i64 k0, .int .i64 k1, .slice A2 secs.length c2, .slice (some ad3) syms.length c3, .slice A4 relas.length c4, .slice A5 groups.length c5, .slice A6 sects.length c6]) HK.out 0 rfl;obtain ⟨z1,_⟩ := bx (vs := [.int .i64 k0, .int .i64 k1, .slice A2 secs.length c2, .slice (some ad3) syms.length c3, .slice A4 relas.length c4, .slice A5 groups.length c5, .slice A6 sects.length c6]) HK.out 1 rfl;obtain ⟨z2,_⟩ := bx (vs := [.int .i64 k0, .int .i64 k1, .slice A2 secs.length c2, .slice (some ad3) syms.length c3, .slice A4 relas.length c4, .slice A5 groups.length c5, .slice A6 sects.length c6]) HK.out 2 rfl;obtain ⟨z3,_⟩ := bx (vs := [.int .i64 k0, .int .i64 k1, .slice A2 secs.length c2, .slice (some ad3) syms.length c3, .slice A4 relas.length c4, .slice A5 groups.length c5, .slice A6 sects.length c6]) HK.out 3 rfl;obtain ⟨z4,_⟩ := bx (vs := [.int .i64 k0, .int .i64 k1, .slice A2 secs.length c2, .slice (some ad3) syms.length c3, .slice A4 relas.length c4, .slice A5 groups.length c5, .slice A6 sects.length c6]) HK.out 4 rfl;obtain ⟨z5,_⟩ := bx (vs := [.int .i64 k0, .int .i64 k1, .slice A2 secs.length c2, .slice (some ad3) syms.length c3, .slice A4 relas.length c4, .slice A5 groups.length c5, .slice A6 sects.length c6]) HK.out 5 rfl;obtain ⟨z6,_⟩ := bx (vs := [.int .i64 k0, .int .i64 k1, .slice A2 secs.length c2, .slice (some ad3) syms.length c3, .slice A4 relas.length c4, .slice A5 groups.length c5, .slice A6 sects.length c6]) HK.out 6 rfl;obtain ⟨y0,_⟩ := bx (vs := [.string s0, .int .u8 s1, .bool s2, .int .i64 s3, .int .i64 s4, .int .i64 s5]) HY.out 0 rfl;obtain ⟨y1,_⟩ := bx (vs := [.string s0, .int .u8 s1, .bool s2, .int .i64 s3, .int .i64 s4, .int .i64 s5]) HY.out 1 rfl;obtain ⟨y2,_⟩ := bx (vs := [.string s0, .int .u8 s1, .bool s2, .int .i64 s3, .int .i64 s4, .int .i64 s5]) HY.out 2 rfl;obtain ⟨y3,_⟩ := bx (vs := [.string s0, .int .u8 s1, .bool s2, .int .i64 s3, .int .i64 s4, .int .i64 s5]) HY.out 3 rfl;obtain ⟨y4,_⟩ := bx (vs := [.string s0, .int .u8 s1, .bool s2, .int .i64 s3, .int .i64 s4, .int .i64 s5]) HY.out 4 rfl;obtain ⟨y5,_⟩ := bx (vs := [.string s0, .int .u8 s1, .bool s2, .int .i64 s3, .int .i64 s4, .int .i64 s5]) HY.out 5 rfl;cases gv
     ·have HN := am0 (show symsRun ⟨k0,k1,⟨secs,syms,relas,groups⟩,sects⟩ i (j + 1) (upd t2.1 s0 (putD ⟨s0,s1,s2,s3,s4,s5⟩ i j ((t2.1 s0).getD zD)),t2.2) (syms.drop (j + 1)) = T by
       rw [← HST.out]
       congr 1
       rw [symStep,if_neg H1.out,if_pos ⟨H3.out,HGV.out⟩])
      go_upto_region 10 with (first
       | (go_at_call 24;refine (HGS.out _ HS.out.hb).mono ?_;rintro e w7 ⟨rfl,hb⟩;have HS4 := am0 (HS.out.below hb);have HK4 := am0 (blk_below HK.out hb);have HY4 := am0 (blk_below HY.out hb);clear hb))
      clear z0 z1 z2 z3 z4 z5 z6 y0 y1 y2 y3 y4 y5 yy yw;obtain ⟨y0,_⟩ := bx (vs := [.string s0, .int .u8 s1, .bool s2, .int .i64 s3, .int .i64 s4, .int .i64 s5]) HY4.out 0 rfl;obtain ⟨y1,_⟩ := bx (vs := [.string s0, .int .u8 s1, .bool s2, .int .i64 s3, .int .i64 s4, .int .i64 s5]) HY4.out 1 rfl;obtain ⟨y2,_⟩ := bx (vs := [.string s0, .int .u8 s1, .bool s2, .int .i64 s3, .int .i64 s4, .int .i64 s5]) HY4.out 2 rfl;obtain ⟨y3,_⟩ := bx (vs := [.string s0, .int .u8 s1, .bool s2, .int .i64 s3, .int .i64 s4, .int .i64 s5]) HY4.out 3 rfl;obtain ⟨y4,_⟩ := bx (vs := [.string s0, .int .u8 s1, .bool s2, .int .i64 s3, .int .i64 s4, .int .i64 s5]) HY4.out 4 rfl;obtain ⟨y5,_⟩ := bx (vs := [.string s0, .int .u8 s1, .bool s2, .int .i64 s3, .int .i64 s4, .int .i64 s5]) HY4.out 5 rfl
      go_wp2_with (first
       | (go_at_call 28;refine (put_calls ⟨s0,s1,s2,s3,s4,s5⟩ (i : Int) (j : Int) tb m1 m2 t2.1 (i * 64 + j) _ HS4.out.tb HS4.out.m1 hm (by simp only [maxLen];omega)).mono ?_;rintro e w8 ⟨⟨v,rfl⟩,hM,hg⟩;have RS9 := am0 (HS4.out.put1 N12.out L1.out hM hg);have K9 := am0 (blk_grown HK4.out hg (by intro e;exact HS4.out.m1.ne HK4.out (Option.some.inj e)));clear hM hg))
      all_goals
       go_roundw
       case rel => exact ⟨j + 1,(upd t2.1 s0 (putD ⟨s0,s1,s2,s3,s4,s5⟩ i j ((t2.1 s0).getD zD)),t2.2),by omega,by go_num,HN,⟨RS9.out.mono (by omega)⟩,K9⟩
       case measure => simp [intOf];omega
     go_upto_region 11 with (first
      | (go_at_call 24;refine (HGS.out _ HS.out.hb).mono ?_;rintro e w7 ⟨rfl,hb⟩;have HS4 := am0 (HS.out.below hb);have HK4 := am0 (blk_below HK.out hb);have HY4 := am0 (blk_below HY.out hb);clear hb))
     clear z0 z1 z2 z3 z4 z5 z6 y0 y1 y2 y3 y4 y5 yy yw;obtain ⟨yy,_⟩ := bx (vs := [.string s0, .int .u8 s1, .bool s2, .int .i64 s3, .int .i64 s4, .int .i64 s5]) HY4.out 1 rfl
     by_cases h4 : s1 = 1
     ·have e4 : (s1 == 1) = true := by simp [h4]
      have HN := am0 (show symsRun ⟨k0,k1,⟨secs,syms,relas,groups⟩,sects⟩ i (j + 1) (t2.1,upd t2.2 s0 (wrap64 ((t2.2 s0).getD 0 + 1))) (syms.drop (j + 1)) = T by
       rw [← HST.out]
       congr 1
       rw [symStep,if_neg H1.out,if_neg (fun h => by rw [HGV.out] at h;exact absurd h.2 (by decide)),if_pos h4])
      clear h4;go_upto_region 12 with (fail)
      have RB := HS4;obtain ⟨t1,_⟩ := bx (vs := [.map (some m1), .map (some m2)]) RB.out.tb 1 rfl;obtain ⟨y0,_⟩ := bx (vs := [.string s0, .int .u8 s1, .bool s2, .int .i64 s3, .int .i64 s4, .int .i64 s5]) HY4.out 0 rfl
      go_wp2_with (first
       | ((with_reducible refine gate_dst (N := 54) rfl ?_);refine wpList_look _ rfl (.tmp 51) (.tmp 53) 56 rfl (K := 9) (e := 3) slit (Value.int .i64) (Go.Proofs.YtalomolellcefaaDoor.Maps.int_inj IntKind.i64) KL Tryd.underlying56 0 (Tryd.zeroValue3 _) m2 (i * 64 + j) t2.2 rfl RB.out.m2 (.string s0) s0 rfl HKY.out ?_)
       | (refine wpList_put _ rfl (.tmp 51) (.tmp 53) (.tmp 55) 56 rfl (K := 9) (e := 3) slit slit_inj (Value.int .i64) (Go.Proofs.YtalomolellcefaaDoor.Maps.int_inj IntKind.i64) KL Tryd.underlying56 m2 (i * 64 + j) hm t2.2 rfl RB.out.m2 (.string s0) s0 rfl HKY.out (wrap64 ((t2.2 s0).getD 0 + 1)) rfl ?_;intro w9 hM hgr;have RS9 := am0 (RB.out.put2 N12.out L2.out hM hgr);have K9 := am0 (blk_grown HK4.out hgr (by intro e;exact RB.out.m2.ne HK4.out (Option.some.inj e)));clear hM hgr))
      all_goals
       go_roundw
       case rel => exact ⟨j + 1,(t2.1,upd t2.2 s0 (wrap64 ((t2.2 s0).getD 0 + 1))),by omega,by go_num,HN,⟨RS9.out.mono (by omega)⟩,K9⟩
       case measure => simp [intOf];omega
     have e4 : (s1 == 1) = false := by simp [h4]
     have HN := am0 (show symsRun ⟨k0,k1,⟨secs,syms,relas,groups⟩,sects⟩ i (j + 1) t2 (syms.drop (j + 1)) = T by
      rw [← HST.out]
      congr 1
      rw [symStep,if_neg H1.out,if_neg (fun h => by rw [HGV.out] at h;exact absurd h.2 (by decide)),if_neg h4])
     clear h4;go_wp2
     all_goals
      go_roundw
      case rel => exact ⟨j + 1,t2,by omega,by go_num,HN,⟨RS.mono HS4.out (by omega)⟩,HK4⟩
      case measure => simp [intOf];omega
    have he : j = syms.length := by omega
    subst he;have hst := HTT.out;rw [List.drop_length] at hst;replace hst : t2 = T := hst;subst hst;have hnj : ¬ ((syms.length : Int) < (syms.length : Int)) := by omega
    go_wp2
    go_roundw
    case rel => exact ⟨i + 1,t2,by omega,by go_num,HP,⟨HS.out.mono (by omega)⟩⟩
    case measure => simp [intOf];omega
  have he : i = l0.length := by omega
  subst he;have hV := HT.out;rw [List.drop_length] at hV;replace hV : t = R := hV;subst hV;have hnum : ¬ ((l0.length : Int) < (l0.length : Int)) := by omega
  obtain ⟨t0,_⟩ := bx (vs := [.map (some m1), .map (some m2)]) HS.out.tb 0 rfl;obtain ⟨t1,_⟩ := bx (vs := [.map (some m1), .map (some m2)]) HS.out.tb 1 rfl;obtain ⟨o0,z0⟩ := bx (vs := [.map none, .map none]) HS.out.ob 0 rfl;obtain ⟨o1,z1⟩ := bx (vs := [.map none, .map none]) HS.out.ob 1 rfl;go_wp2
  refine bodyPost_ret (v := .agg #[.map (some m1), .map (some m2)]) ?_ rfl ⟨m1,m2,rfl,L1.out,L2.out,N12.out, ?_, ?_, ?_⟩
  ·simp [results,Tryd.results22,o0,o1,go_sem]
  ·exact MapIs.setCell (MapIs.setCell (HS.out.m1.mono (by omega)) (fun h => HS.out.m1.ne HS.out.ob h.symm) _) (fun h => HS.out.m1.ne HS.out.ob h.symm) _
  ·exact MapIs.setCell (MapIs.setCell (HS.out.m2.mono (by omega)) (fun h => HS.out.m2.ne HS.out.ob h.symm) _) (fun h => HS.out.m2.ne HS.out.ob h.symm) _
  exact below_set (below_set HS.out.hb LO.out) LO.out
end Go.Proofs.YtalomolellcefaaDoor.Q
namespace Go.Proofs
open Go.Shelf
def Tryd.keys32_ren : Go.Shelf.Ren := ⟨fun | 7 => 32 | 10 => 41 | n => n,fun | 23 => 56 | 26 => 9 | 3 => 3 | 28 => 78 | 0 => 0 | 27 => 77 | 33 => 87 | 4 => 4 | n => n,fun | n => n⟩
theorem Tryd.keys32 : Go.Proofs.SlLaysZ.n7 Tryd.prog Tryd.keys32_ren := {
 mixed := by kernel_rfl
 f7 := ⟨Tryd.f32.name,by decide,Tryd.func32.trans (congrArg some (by kernel_rfl))⟩
 f10 := ⟨Tryd.f41.name,by decide,Tryd.func41.trans (congrArg some (by kernel_rfl))⟩
 t0 := Tryd.underlying0
 a0 := Tryd.isAgg0
 z0 := Tryd.sizeOf0
 v0 := Tryd.zeroValue0
 t4 := Tryd.underlying4
 a4 := Tryd.isAgg4
 z4 := Tryd.sizeOf4
 v4 := Tryd.zeroValue4
 t23 := Tryd.underlying56
 a23 := Tryd.isAgg56
 z23 := Tryd.sizeOf56
 v23 := Tryd.zeroValue56
 t26 := Tryd.underlying9
 a26 := Tryd.isAgg9
 z26 := Tryd.sizeOf9
 v26 := Tryd.zeroValue9
 t27 := Tryd.underlying77
 a27 := Tryd.isAgg77
 z27 := Tryd.sizeOf77
 v27 := Tryd.zeroValue77
 t28 := Tryd.underlying78
 a28 := Tryd.isAgg78
 z28 := Tryd.sizeOf78
 v28 := Tryd.zeroValue78
 t33 := Tryd.underlying87
 a33 := Tryd.isAgg87
 z33 := Tryd.sizeOf87
 v33 := Tryd.zeroValue87 }
def Tryd.sorted31_ren : Go.Shelf.Ren := ⟨fun | 6 => 31 | 8 => 39 | 9 => 40 | 11 => 52 | 13 => 54 | 12 => 53 | 23 => 77 | 24 => 78 | 14 => 68 | 15 => 69 | 16 => 70 | 17 => 71 | 18 => 72 | 19 => 73 | 20 => 74 | 21 => 75 | 22 => 76 | 25 => 84 | 26 => 85 | 27 => 86 | 28 => 87 | 29 => 88 | 30 => 89 | 31 => 92 | n => n,fun | 26 => 9 | 28 => 78 | 24 => 49 | 0 => 0 | 3 => 3 | 37 => 81 | 48 => 99 | 50 => 102 | 4 => 4 | 40 => 126 | 39 => 125 | 45 => 131 | 5 => 5 | 9 => 9 | 51 => 138 | 55 => 142 | 57 => 145 | 58 => 121 | 33 => 87 | n => n,fun | n => n⟩
theorem Tryd.sorted31 : Go.Proofs.SlLaysZ.n6 Tryd.prog Tryd.sorted31_ren := {
 mixed := by kernel_rfl
 f6 := ⟨Tryd.f31.name,by decide,Tryd.func31.trans (congrArg some (by kernel_rfl))⟩
 f8 := ⟨Tryd.f39.name,by decide,Tryd.func39.trans (congrArg some (by kernel_rfl))⟩
 f11 := ⟨Tryd.f52.name,by decide,Tryd.func52.trans (congrArg some (by kernel_rfl))⟩
 t0 := Tryd.underlying0
 a0 := Tryd.isAgg0
 z0 := Tryd.sizeOf0
 v0 := Tryd.zeroValue0
 t24 := Tryd.underlying49
 a24 := Tryd.isAgg49
 z24 := Tryd.sizeOf49
 v24 := Tryd.zeroValue49
 t26 := Tryd.underlying9
 a26 := Tryd.isAgg9
 z26 := Tryd.sizeOf9
 v26 := Tryd.zeroValue9
 t28 := Tryd.underlying78
 a28 := Tryd.isAgg78
 z28 := Tryd.sizeOf78
 v28 := Tryd.zeroValue78
 i26 := by kernel_rfl }
def Tryd.sort40_ren : Go.Shelf.Ren := ⟨fun | 6 => 40 | 8 => 54 | 9 => 53 | 19 => 77 | 20 => 78 | 21 => 68 | 22 => 69 | 23 => 70 | 24 => 71 | 25 => 72 | 26 => 73 | 27 => 74 | 28 => 75 | 29 => 76 | 36 => 84 | 31 => 85 | 32 => 86 | 37 => 87 | 38 => 88 | 39 => 89 | 41 => 92 | n => n,fun | 27 => 49 | 29 => 9 | 3 => 3 | 32 => 81 | 26 => 49 | 0 => 0 | 44 => 99 | 46 => 102 | 4 => 4 | 36 => 126 | 35 => 125 | 41 => 131 | 5 => 5 | 9 => 9 | 53 => 138 | 57 => 142 | 63 => 145 | 64 => 121 | n => n,fun | n => n⟩
theorem Tryd.sort40 : Go.Proofs.SlLaysM.n6 Tryd.prog Tryd.sort40_ren := {
 mixed := by kernel_rfl
 f6 := ⟨Tryd.f40.name,by decide,Tryd.func40.trans (congrArg some (by kernel_rfl))⟩
 f8 := Tryd.func54.trans (congrArg some (by kernel_rfl))
 f9 := ⟨Tryd.f53.name,by decide,Tryd.func53.trans (congrArg some (by kernel_rfl))⟩
 f19 := Tryd.func77.trans (congrArg some (by kernel_rfl))
 f20 := Tryd.func78.trans (congrArg some (by kernel_rfl))
 f21 := ⟨Tryd.f68.name,by decide,Tryd.func68.trans (congrArg some (by kernel_rfl))⟩
 f22 := ⟨Tryd.f69.name,by decide,Tryd.func69.trans (congrArg some (by kernel_rfl))⟩
 f23 := ⟨Tryd.f70.name,by decide,Tryd.func70.trans (congrArg some (by kernel_rfl))⟩
 f24 := ⟨Tryd.f71.name,by decide,Tryd.func71.trans (congrArg some (by kernel_rfl))⟩
 f25 := ⟨Tryd.f72.name,by decide,Tryd.func72.trans (congrArg some (by kernel_rfl))⟩
 f26 := ⟨Tryd.f73.name,by decide,Tryd.func73.trans (congrArg some (by kernel_rfl))⟩
 f27 := ⟨Tryd.f74.name,by decide,Tryd.func74.trans (congrArg some (by kernel_rfl))⟩
 f28 := ⟨Tryd.f75.name,by decide,Tryd.func75.trans (congrArg some (by kernel_rfl))⟩
 f29 := ⟨Tryd.f76.name,by decide,Tryd.func76.trans (congrArg some (by kernel_rfl))⟩
 f31 := Tryd.func85.trans (congrArg some (by kernel_rfl))
 f32 := Tryd.func86.trans (congrArg some (by kernel_rfl))
 f36 := ⟨Tryd.f84.name,by decide,Tryd.func84.trans (congrArg some (by kernel_rfl))⟩
 f37 := ⟨Tryd.f87.name,by decide,Tryd.func87.trans (congrArg some (by kernel_rfl))⟩
 f38 := ⟨Tryd.f88.name,by decide,Tryd.func88.trans (congrArg some (by kernel_rfl))⟩
 f39 := ⟨Tryd.f89.name,by decide,Tryd.func89.trans (congrArg some (by kernel_rfl))⟩
 f41 := ⟨Tryd.f92.name,by decide,Tryd.func92.trans (congrArg some (by kernel_rfl))⟩
 t0 := Tryd.underlying0
 a0 := Tryd.isAgg0
 z0 := Tryd.sizeOf0
 v0 := Tryd.zeroValue0
 t3 := Tryd.underlying3
 a3 := Tryd.isAgg3
 z3 := Tryd.sizeOf3
 v3 := Tryd.zeroValue3
 t4 := Tryd.underlying4
 a4 := Tryd.isAgg4
 z4 := Tryd.sizeOf4
 v4 := Tryd.zeroValue4
 t5 := Tryd.underlying5
 a5 := Tryd.isAgg5
 z5 := Tryd.sizeOf5
 v5 := Tryd.zeroValue5
 t9 := Tryd.underlying9
 a9 := Tryd.isAgg9
 z9 := Tryd.sizeOf9
 v9 := Tryd.zeroValue9
 t26 := Tryd.underlying49
 a26 := Tryd.isAgg49
 z26 := Tryd.sizeOf49
 v26 := Tryd.zeroValue49
 t27 := Tryd.underlying49
 a27 := Tryd.isAgg49
 z27 := Tryd.sizeOf49
 v27 := Tryd.zeroValue49
 t29 := Tryd.underlying9
 a29 := Tryd.isAgg9
 z29 := Tryd.sizeOf9
 v29 := Tryd.zeroValue9
 t32 := Tryd.underlying81
 a32 := Tryd.isAgg81
 z32 := Tryd.sizeOf81
 v32 := Tryd.zeroValue81
 t35 := Tryd.underlying125
 a35 := Tryd.isAgg125
 z35 := Tryd.sizeOf125
 v35 := Tryd.zeroValue125
 t36 := Tryd.underlying126
 a36 := Tryd.isAgg126
 z36 := Tryd.sizeOf126
 v36 := Tryd.zeroValue126
 t41 := Tryd.underlying131
 a41 := Tryd.isAgg131
 z41 := Tryd.sizeOf131
 v41 := Tryd.zeroValue131
 t44 := Tryd.underlying99
 a44 := Tryd.isAgg99
 z44 := Tryd.sizeOf99
 v44 := Tryd.zeroValue99
 t46 := Tryd.underlying102
 a46 := Tryd.isAgg102
 z46 := Tryd.sizeOf102
 v46 := Tryd.zeroValue102
 t53 := Tryd.underlying138
 a53 := Tryd.isAgg138
 z53 := Tryd.sizeOf138
 v53 := Tryd.zeroValue138
 t57 := Tryd.underlying142
 a57 := Tryd.isAgg142
 z57 := Tryd.sizeOf142
 v57 := Tryd.zeroValue142
 t63 := Tryd.underlying145
 a63 := Tryd.isAgg145
 z63 := Tryd.sizeOf145
 v63 := Tryd.zeroValue145
 t64 := Tryd.underlying121
 a64 := Tryd.isAgg121
 z64 := Tryd.sizeOf121
 v64 := Tryd.zeroValue121 }
def Tryd.del29_ren : Go.Shelf.Ren := ⟨fun | 5 => 29 | n => n,fun | 23 => 56 | 26 => 9 | 24 => 3 | 27 => 75 | 0 => 0 | 4 => 4 | n => n,fun | n => n⟩
theorem Tryd.del29 : Go.Proofs.SlLaysDf.n5 Tryd.prog Tryd.del29_ren := {
 mixed := by kernel_rfl
 f5 := ⟨Tryd.f29.name,by decide,Tryd.func29.trans (congrArg some (by kernel_rfl))⟩
 t0 := Tryd.underlying0
 a0 := Tryd.isAgg0
 z0 := Tryd.sizeOf0
 v0 := Tryd.zeroValue0
 t4 := Tryd.underlying4
 a4 := Tryd.isAgg4
 z4 := Tryd.sizeOf4
 v4 := Tryd.zeroValue4
 t23 := Tryd.underlying56
 a23 := Tryd.isAgg56
 z23 := Tryd.sizeOf56
 v23 := Tryd.zeroValue56
 a24 := Tryd.isAgg3
 z24 := Tryd.sizeOf3
 a26 := Tryd.isAgg9
 z26 := Tryd.sizeOf9
 t27 := Tryd.underlying75
 a27 := Tryd.isAgg75
 z27 := Tryd.sizeOf75
 v27 := Tryd.zeroValue75 }
end Go.Proofs
namespace Go.Proofs.YtalomolellcefaaDoor.Q
open Go.RowKit Go.Maps Go.Sort Go.Shelf Go.Proofs.YtalomolellcefaaDoorW.PrintWords Go.Proofs.YtalomolellcefaaDoor.Maps
theorem sorts_in (m : Nat) : AnyZ.SortsIn Tryd.prog Tryd.sorted31_ren Fence.wide m :=
 ⟨fun blk off cap ss W hH hblk hsz => callsIn_wide.2 (AnyM.slices_Sort_string Tryd.sort40 blk off cap ss W hH hblk hsz),
 fun p cap W => callsIn_wide.2 (AnyM.slices_Sort_string_none Tryd.sort40 p cap W)⟩
theorem keys_calls (mb : Option Nat) (W : World) : Calls Tryd.prog 32 #[.map mb] W fun e w' => e = .returned (.func (.func 41) #[] #[.pointer (some ⟨W.heap.size,0,none⟩)]) ∧ w' = W.alloc (.cells #[.map mb] 56) :=
 callsIn_wide.1 (AnyZ.keys_in Tryd.keys32 Fence.wide 5 trivial rfl mb W)
set_option maxHeartbeats 1000000 in
theorem sorted_calls {H : Type} (b nn : Nat) (D0 : DataW H) (R : Value → Option (DataW H × List MemPlace)) (w : World) (hown : w.ownsMap Tryd.prog 9 R b nn D0) (hmax : Maps.size D0 ≤ maxLen) (hbytes : Maps.size D0 * 16 ≤ 140737488355328) :
  Calls Tryd.prog 31 #[.func (.func 41) #[] #[.pointer (some ⟨w.heap.size,0,none⟩)]] (w.alloc (.cells #[.map (some b)] 56)) fun e w' => ∃ (v : Value) (ss : List (List UInt8)),e = .returned v ∧ ss.Perm (strKeys D0) ∧
   w'.ownsRow (w.alloc (.cells #[.map (some b)] 56)).heap.size 9 1 v ss.length ((ss.mergeSort (fun x y => decide (x ≤ y))).map encStr) ∧ (v = .slice none 0 0 ↔ ss = []) ∧ Below (w.alloc (.cells #[.map (some b)] 56)).heap.size (w.alloc (.cells #[.map (some b)] 56)) w' := by
 have hbl := hown.lt
 have hseq : SeqGives Fence.wide 2 Tryd.prog 41 #[.pointer (some ⟨w.heap.size,0,none⟩)] encStr (fun ss => ss.Perm (strKeys D0)) (Maps.size D0) (w.alloc (.cells #[.map (some b)] 56)) :=
  AnyZ.keys_gives (ρ := Tryd.keys32_ren) { Tryd.keys32 with } Fence.wide _ trivial rfl (by omega) w.heap.size b nn D0 _ (by simp) (by simp) (by
   obtain ⟨es,clock,hb,Ft,hs,hD⟩ := hown;exact ⟨es,clock,(Below.heap_alloc _ _ b hbl).trans hb,Ft,hs,hD⟩)
 exact callsIn_wide.1 (AnyZ.sorted_in Tryd.sorted31 Fence.wide 5 trivial trivial trivial trivial rfl (by omega) (sorts_in _) (enters_of Tryd.func40 (by kernel_rfl) rfl) 41 #[.pointer (some ⟨w.heap.size,0,none⟩)] trivial (enters_of Tryd.func41 (by kernel_rfl) rfl) _ _ hmax hbytes _ hseq)
def Rising (r : List ByteArray) : Prop := r.Pairwise fun a b => a.data.toList < b.data.toList
def lacksP (t : Tab) (s : ByteArray) : Prop := (t.2 s).isSome = true ∧ ((t.1 s).getD zD).is = false
def LacksIs (t : Tab) (r : List ByteArray) : Prop := Rising r ∧ ∀ s,s ∈ r ↔ lacksP t s
theorem rising_uniq : ∀ {r r' : List ByteArray},Rising r → Rising r' → (∀ s,s ∈ r ↔ s ∈ r') → r = r' := by
 intro r r' h h' hm;have h1 : r.Nodup := (h.imp fun {a b} hab e => by subst e;exact absurd hab (List.lt_irrefl _));have h2 : r'.Nodup := (h'.imp fun {a b} hab e => by subst e;exact absurd hab (List.lt_irrefl _));unfold Rising at h h';refine List.Perm.eq_of_pairwise (le := fun (a b : ByteArray) => a.data.toList < b.data.toList) (fun a b _ _ x y => ?_) h h' ((List.perm_ext_iff_of_nodup h1 h2).2 hm);exact absurd (List.lt_trans x y) (List.lt_irrefl _)
noncomputable def lacksV (t : Tab) : List ByteArray := open Classical in if h : ∃ r,LacksIs t r then Classical.choose h else []
theorem lacksV_eq {t : Tab} {r : List ByteArray} (h : LacksIs t r) : lacksV t = r := by
 have hex : ∃ r,LacksIs t r := ⟨r,h⟩;unfold lacksV;rw [dif_pos hex];have hc := Classical.choose_spec hex;exact rising_uniq hc.1 h.1 (fun s => (hc.2 s).trans (h.2 s).symm)
section
variable {H : Type}
theorem strKeys_nodup {es : List (Lit × DataW H)} (hp : es.Pairwise (fun p q => p.1 ≠ q.1)) (hk : ∀ p ∈ es, ∃ x,p.1 = .string x) : (strKeys (.map es)).Nodup := by
 show (es.map fun p => strOf p.1).Nodup;refine List.pairwise_map.2 (hp.imp_of_mem fun {p q} hp' hq' hne e => hne ?_);obtain ⟨a,ha⟩ := hk p hp';obtain ⟨b,hb⟩ := hk q hq';rw [ha,hb] at e ⊢;exact congrArg _ e
theorem strKeys_mem {es : List (Lit × DataW H)} (hk : ∀ p ∈ es, ∃ x,p.1 = .string x) (x : List UInt8) : x ∈ strKeys (.map es) ↔ Maps.has (.map es) (.string x) = true := by
 rw [has_eq,List.any_eq_true];show x ∈ es.map (fun p => strOf p.1) ↔ _;rw [List.mem_map];constructor
 ·rintro ⟨p,hp',rfl⟩
  obtain ⟨a,ha⟩ := hk p hp';exact ⟨p,hp',by rw [ha];simp [Lit.sameKey,strOf]⟩
 rintro ⟨p,hp',hs⟩
 obtain ⟨a,ha⟩ := hk p hp';rw [ha] at hs;exact ⟨p,hp',by rw [ha];simpa [Lit.sameKey,strOf] using hs⟩
theorem has_delete {es : List (Lit × DataW H)} (hk : ∀ p ∈ es, ∃ x,p.1 = .string x) (q : Lit → Bool) (x : List UInt8) : Maps.has (Lib.deleteFuncD (fun k _ => q k) (.map es)) (.string x) = (Maps.has (.map es) (.string x) && !q (.string x)) := by
 show (es.filter fun p => !q p.1).any (fun p => p.1.sameKey (.string x)) = (es.any (fun p => p.1.sameKey (.string x)) && !q (.string x));rw [List.any_filter,Bool.eq_iff_iff];simp only [Bool.and_eq_true,List.any_eq_true];constructor
 ·rintro ⟨p,hp,h1,h2⟩
  obtain ⟨a,ha⟩ := hk p hp;have e : a = x := by rw [ha] at h2;simpa [Lit.sameKey] using h2
  subst e;rw [ha] at h1;exact ⟨⟨p,hp,h2⟩,h1⟩
 rintro ⟨⟨p,hp,h2⟩,h1⟩
 obtain ⟨a,ha⟩ := hk p hp;have e : a = x := by rw [ha] at h2;simpa [Lit.sameKey] using h2
 subst e;refine ⟨p,hp, ?_,h2⟩;rw [ha];exact h1
end
def isDef (f : ByteArray → Option DefV) (k : Lit) : Bool := ((f ⟨(strOf k).toArray⟩).getD zD).is
theorem lacks_of {w w2 : World} {b n n' : Nat} {f : ByteArray → Option DefV} {g : ByteArray → Option Int} {D : DataW Int} {R R' : Value → Option (DataW Int × List MemPlace)} (ho : w.ownsMap Tryd.prog 9 R b n D) (hf : ∀ k,Maps.has D (slit k) = (g k).isSome)
  (ho2 : w2.ownsMap Tryd.prog 9 R' b n' (Lib.deleteFuncD (fun k _ => isDef f k) D)) {ss : List (List UInt8)} (hp : ss.Perm (strKeys (Lib.deleteFuncD (fun k _ => isDef f k) D))) :
  LacksIs (f,g) ((ss.mergeSort leB).map fun l => ⟨l.toArray⟩) := by
 have K : Keyed Tryd.prog 9 := string_keyed Tryd.underlying9;obtain ⟨es,rfl,_,_⟩ := ho.entries K;obtain ⟨es0,hD0,hko0⟩ := ho.keysOf;obtain rfl : es = es0 := by simpa using hD0
 have hs : ∀ p ∈ es, ∃ x,p.1 = .string x := fun p hp => by
  obtain ⟨v,hv⟩ := hko0 p hp;obtain ⟨x,_,hx,_⟩ := Maps.keyOf_str Tryd.underlying9 hv;exact ⟨x,hx⟩
 obtain ⟨es2,hD2,hpw,_⟩ := ho2.entries K
 have hes2 : ∀ p ∈ es2, ∃ x,p.1 = .string x := fun p hp => by
  have : es2 = es.filter fun p => !isDef f p.1 := by simpa [Lib.deleteFuncD] using hD2.symm
  rw [this] at hp;exact hs p ((List.mem_filter.1 hp).1)
 have hnd : ss.Nodup := hp.nodup_iff.2 (by rw [hD2];exact strKeys_nodup hpw hes2)
 have hmem : ∀ x,x ∈ ss ↔ lacksP (f,g) ⟨x.toArray⟩ := fun x => by
  rw [hp.mem_iff,hD2,strKeys_mem hes2, ← hD2,has_delete hs];have h1 := hf ⟨x.toArray⟩;have h2 : slit ⟨x.toArray⟩ = .string x := by simp [slit]
  rw [h2] at h1;rw [h1,Bool.and_eq_true];simp [lacksP,isDef,strOf]
 have tr : ∀ a b c : List UInt8,leB a b = true → leB b c = true → leB a c = true := fun a b c h1 h2 => by simp only [leB,decide_eq_true_eq] at *;exact List.le_trans h1 h2
 have tot : ∀ a b : List UInt8,(leB a b || leB b a) = true := fun a b => by simp only [leB,Bool.or_eq_true,decide_eq_true_eq];exact List.le_total a b
 refine ⟨?_,fun s => ?_⟩
 ·refine List.pairwise_map.2 ?_
  have h1 := List.pairwise_mergeSort tr tot ss;have h2 : (ss.mergeSort leB).Nodup := (List.mergeSort_perm ss leB).nodup_iff.2 hnd;refine (h1.and h2).imp ?_
  rintro a b ⟨hle,hne⟩
  simp only [leB,decide_eq_true_eq] at hle;show a < b;rcases List.le_iff_lt_or_eq.1 hle with h | h
  ·exact h
  exact absurd h hne
 rw [List.mem_map];constructor
 ·rintro ⟨l,hl,rfl⟩
  exact (hmem l).1 ((List.mergeSort_perm ss leB).mem_iff.1 hl)
 intro h;refine ⟨s.data.toList,(List.mergeSort_perm ss leB).mem_iff.2 ((hmem _).2 ?_), ?_⟩
 ·have : (⟨s.data.toList.toArray⟩ : ByteArray) = s := by cases s;simp
  rw [this];exact h
 cases s;simp
set_option maxHeartbeats 1000000 in
set_option maxRecDepth 100000 in
theorem lacks_del (tb m1 m2 N : Nat) (f : ByteArray → Option DefV) (W : World) (s : ByteArray) (x : Value) (hs : s.size ≤ maxLen) (ht : W.heap[tb]? = some (.cells #[.map (some m1), .map (some m2)] 58 (0,0))) (hm : MapIs Tryd.prog 9 slit encD W m1 N f) :
  Calls Tryd.prog 30 #[.string s,x, .pointer (some ⟨tb,0,none⟩)] W fun e w' => e = .returned (.bool ((f s).getD zD).is) ∧ w' = W := by
 have hu58 := Tryd.underlying58;have hu62 := Tryd.underlying62;obtain ⟨t0,_⟩ := bx (vs := [.map (some m1), .map (some m2)]) ht 0 rfl;have KL : Go.Maps.Keyed Tryd.prog 9 := Go.Maps.string_keyed Tryd.underlying9;have hkey := WideMaps.keyOf_string_mk (P := Tryd.prog) Tryd.underlying9 (s := s) hs;have HM := am0 hm;have HKY := am0 hkey;clear ht hm hkey;obtain ⟨d,hd⟩ : ∃ d,(f s).getD zD = d := ⟨_,rfl⟩;rw [hd];have HD := am0 hd;clear hd;obtain ⟨d0,d1,d2,d3,d4,d5,d6⟩ := d;have hfd : ∀ W : World,(Instr.field 62 (.agg #[.int .i64 d0, .int .i64 d1, .int .i64 d2, .int .i64 d3, .int .i64 d4, .int .i64 d5, .bool d6]) 3).run Tryd.prog W = .ok (.bool d6) W := fun _ => by kernel_rfl
 go_enter Tryd.func30,Tryd.ntmps30
 go_wp2_with (first
  | ((with_reducible refine gate_dst (N := 9) rfl ?_);refine wpList_look _ rfl (.tmp 7) (.tmp 8) 55 rfl (K := 9) (e := 62) slit encD encD_inj KL Tryd.underlying55 zD (Tryd.zeroValue62 _) m1 N f rfl HM.out (.string s) s rfl HKY.out ?_;rw [HD.out];simp only [encD]))
 go_ret
 exact ⟨rfl,rfl⟩
set_option maxHeartbeats 1000000 in
set_option maxRecDepth 100000 in
theorem lacks_calls (m1 m2 N : Nat) (t : Tab) (w : World) (hne : m1 ≠ m2) (hN : N ≤ 4096) (h1 : MapIs Tryd.prog 9 slit encD w m1 N t.1) (h2 : MapIs Tryd.prog 9 slit (Value.int .i64) w m2 N t.2) :
  Calls Tryd.prog 23 #[.agg #[.map (some m1), .map (some m2)]] w fun e w' => ∃ v : Value,e = .returned v ∧ Kd.R Kd.string 9 w' w.heap.size (fun _ => True) v (lacksV t) ∧ MapIs Tryd.prog 9 slit encD w' m1 N t.1 ∧ w.grownBy w' (some m2) := by
 have hu58 := Tryd.underlying58;have KL : Go.Maps.Keyed Tryd.prog 9 := Go.Maps.string_keyed Tryd.underlying9;obtain ⟨D,ho,hf⟩ := h2;have HO := am0 ho;have HF := am0 (fun k => (hf k).2);have M1 := am0 h1;clear ho hf h1;go_enter Tryd.func23,Tryd.ntmps23
 go_upto_region 1 with (fail)
 generalize hw1 : World.alloc _ _ = w1;obtain ⟨hbox,hb⟩ := alloc_facts hw1;have TB := am0 hbox;have HB := am0 hb;have M11 := am0 (M1.out.below hb);have HO1 := am0 (HO.out.kept (row := none) ⟨hb.os,hb.tape,hb.output,hb.size,fun i hi _ => hb.block i hi⟩ (by simp));have LT := am0 (Nat.le_refl w.heap.size);have NT2 := am0 (Nat.ne_of_gt HO.out.lt);clear hw1 hbox hb;obtain ⟨tb,htb⟩ : ∃ tb,w.heap.size = tb := ⟨_,rfl⟩;rw [htb] at TB NT2;simp only [htb];have HTB := am0 htb;clear htb;obtain ⟨t1,_⟩ := bx (vs := [.map (some m1), .map (some m2)]) TB.out 1 rfl
 have HDF := am0 (AnyDf.maps_DeleteFunc Tryd.del29 KL (readEnc (Value.int .i64)) (fun k _ => isDef t.1 k) 30 #[.pointer (some ⟨tb,0,none⟩)] m2 N D w1 (enters_of Tryd.func30 (by kernel_rfl) rfl) HO1.out (by
  intro W key val kl yd yp hg hk hv;obtain ⟨x,rfl,rfl,hx⟩ := Maps.keyOf_str Tryd.underlying9 hk;have h := lacks_del tb m1 m2 N t.1 W ⟨x.toArray⟩ val (by show x.toArray.size ≤ maxLen;simpa using hx) (blk_grown TB.out hg (by intro e;exact NT2.out (Option.some.inj e))) (M11.out.kept hg (by intro e;exact hne (Option.some.inj e)));refine h.mono ?_
  rintro e w' ⟨rfl,rfl⟩
  exact ⟨by simp [isDef,strOf],⟨rfl,rfl,rfl,Nat.le_refl _,fun _ _ _ => rfl⟩⟩))
 go_wp2_with fail
 refine HDF.out.mono ?_
 rintro e w2 ⟨rfl,ho2,hg⟩
 have ho2 : w2.ownsMap Tryd.prog 9 (readEnc (Value.int .i64)) m2 N (Lib.deleteFuncD (fun k _ => isDef t.1 k) D) := ho2;have M13 := am0 (M11.out.kept hg (by intro e;exact hne (Option.some.inj e)));have TB2 := am0 (blk_grown TB.out hg (by intro e;exact NT2.out (Option.some.inj e)));have HG := am0 ((World.grownBy.but ⟨HB.out.os,HB.out.tape,HB.out.output,HB.out.size,fun i hi _ => HB.out.block i hi⟩ (some m2)).trans hg);have HO2 := am0 ho2;have hsz := ho2.size_le;clear t1 ho2 hg;obtain ⟨t1,_⟩ := bx (vs := [.map (some m1), .map (some m2)]) TB2.out 1 rfl;go_wp2_with fail
 refine (keys_calls _ _).mono ?_
 rintro e w3 ⟨rfl,rfl⟩
 go_wp2_with fail
 refine (sorted_calls m2 N _ _ w2 HO2.out (by simp only [maxLen];omega) (by omega)).mono ?_
 rintro e w4 ⟨v,ss,rfl,hp,hrow,_,hb⟩
 have HW := am0 (below_step (below_alloc (Below.refl w2.heap.size w2) _) hb);have HL := am0 (lacksV_eq (lacks_of HO.out HF.out HO2.out hp));have HR := am0 hrow;have HSZ := am0 (Nat.le_trans HG.out.size (Nat.le_of_lt (show w2.heap.size < (w2.alloc (.cells #[.map (some m2)] 56)).heap.size by simp)));clear hp hrow hb hsz t1;go_wp2
 go_ret
 refine ⟨v,rfl, ?_,M13.out.below HW.out,HG.out.trans (World.grownBy.but ⟨HW.out.os,HW.out.tape,HW.out.output,HW.out.size,fun i hi _ => HW.out.block i hi⟩ _)⟩;have h1 : lacksV t = (ss.mergeSort leB).map fun l => (⟨l.toArray⟩ : ByteArray) := HL.out
 rw [h1];refine Kd.R_of_own ?_ (fun _ _ => trivial);have h2 := own_weaken HR.out HSZ.out
 have h3 : encs Value.string ((ss.mergeSort leB).map fun l => (⟨l.toArray⟩ : ByteArray)) = (ss.mergeSort leB).map encStr := by
  simp only [encs,List.map_map];rfl
 rw [h3,List.length_map,List.length_mergeSort];exact h2
end Go.Proofs.YtalomolellcefaaDoor.Q
namespace Go.Proofs.YtalomolellcefaaDoor.Q
open Go.RowKit Go.Proofs.YtalomolellcefaaDoorW.PrintWords Go.Proofs.YtalomolellcefaaDoor.Maps
theorem checkGo_zero : ∀ {l : List S38} {i : Nat} {f : ByteArray → Option Int},checkGo l i f = 0 → ∀ k ∈ l,keptElf k = 0 ∧ k.f3.length = k.f2.f0.length
 | [],_,_,_,k,hk => by simp at hk
 | k0 :: l,i,f,h,k,hk => by
  by_cases hb : keptElf k0 ≠ 0 ∨ k0.f3.length ≠ k0.f2.f0.length
  ·rw [checkGo_bad hb] at h;cases h
  by_cases h2 : (groupsRun ((i : Int) + 1) (f,List.replicate k0.f3.length true) k0.f2.f3).2 = k0.f3
  ·rw [checkGo_ok hb h2] at h
   rcases List.mem_cons.1 hk with rfl | hk
   ·exact ⟨Decidable.not_not.1 (fun e => hb (.inl e)),Decidable.not_not.1 (fun e => hb (.inr e))⟩
   exact checkGo_zero h k hk
  rw [checkGo_not hb h2] at h;cases h
theorem symGo_ok (secs : List S72) : ∀ {l : List S40} {g : Bool} {seen : List ByteArray},symGo secs l g seen = true → ∀ s ∈ l,symOk s secs.length = true
 | [],_,_,_,s,hs => by simp at hs
 | s0 :: l,g,seen,h,s,hs => by
  rw [symGo] at h
  split at h
  ·cases h
  rename_i h0;have h0' : symOk s0 secs.length = true := by simpa using h0
  split at h
  ·cases h
  split at h
  ·split at h
   ·cases h
   rcases List.mem_cons.1 hs with rfl | hs
   ·exact h0'
   exact symGo_ok secs h s hs
  split at h
  ·cases h
  rcases List.mem_cons.1 hs with rfl | hs
  ·exact h0'
  exact symGo_ok secs h s hs
theorem check_fits {l : List S38} (hf : ∀ k ∈ l,KeptFit k) (h : resCheckV l = 0) : l.length ≤ 64 ∧ ∀ k ∈ l,ReadFit k := by
 unfold resCheckV at h
 split at h
 ·cases h
 refine ⟨by omega,fun k hk => ?_⟩;obtain ⟨h1,h2⟩ := checkGo_zero h k hk;obtain ⟨_,_,h3⟩ := elf_val (hf k hk);obtain ⟨h4,h5,_⟩ := h3 h1;unfold symbolsV at h5;rw [Bool.and_eq_true,decide_eq_true_eq] at h5;refine ⟨h5.2,fun s hs => ?_⟩;have hok := symGo_ok _ h5.1 s hs;refine ⟨symOk_named hok, ?_⟩
 by_cases hp : 0 < s.f3
 ·have := (symOk_pos hok hp).1.1
  omega
 omega
theorem check_two {l : List S38} (hf : ∀ k ∈ l,KeptFit k) : resCheckV l = 0 ∨ resCheckV l = 8 := by
 have key : ∀ {l : List S38} {i : Nat} {f : ByteArray → Option Int},checkGo l i f = 0 ∨ checkGo l i f = 8 := by
  intro l
  induction l with
  | nil => intro i f;exact .inl rfl
  | cons k0 l ih =>
   intro i f
   by_cases hb : keptElf k0 ≠ 0 ∨ k0.f3.length ≠ k0.f2.f0.length
   ·exact .inr (checkGo_bad hb)
   by_cases h2 : (groupsRun ((i : Int) + 1) (f,List.replicate k0.f3.length true) k0.f2.f3).2 = k0.f3
   ·rw [checkGo_ok hb h2];exact ih
   exact .inr (checkGo_not hb h2)
 unfold resCheckV
 split
 ·exact .inr rfl
 exact key
noncomputable def resLacksV (l : List S38) : List ByteArray × Int := if resCheckV l = 0 then (lacksV (readV l),0) else ([],resCheckV l)
noncomputable def resolve_Lacks.f (l0 : List (S38)) : Option (List ByteArray × Int) := open Classical in if (∀ k ∈ l0,KeptFit k) then some (resLacksV l0) else none
set_option maxHeartbeats 1000000 in
set_option maxRecDepth 100000 in
theorem resolve_Lacks.calls (A0 : Option Addr) (c0 : Nat) (l0 : List (S38)) (r1 : List ByteArray) (r2 : Int) (w : World) (hr0 : Kd.C k38 w A0 l0.length l0) (hc0 : l0.length ≤ c0) (h : resolve_Lacks.f l0 = some (r1,r2)) :
  Calls Tryd.prog 18 #[.slice A0 l0.length c0] w fun e w' => ∃ v0_ : Value,e = .returned (.tuple #[v0_, .int .i64 r2]) ∧ Kd.R Kd.string 9 w' w.heap.size (fun _ => True) v0_ r1 ∧ Below w.heap.size w w' := by
 obtain ⟨hfit,hR⟩ : (∀ k ∈ l0,KeptFit k) ∧ resLacksV l0 = (r1,r2) := by
  unfold resolve_Lacks.f at h
  split at h
  ·exact ⟨by assumption,Option.some.inj h⟩
  cases h
 clear h;have hck : resolve_Check.f l0 = some (resCheckV l0) := by unfold resolve_Check.f;rw [if_pos hfit]
 have HCK := am0 (resolve_Check.calls A0 c0 l0 _ w hr0 hc0 hck);have hC := hr0;have HC := am0 hC;have HB := am0 (Below.refl w.heap.size w);have HF := am0 hfit;clear hfit hr0 hC hck
 by_cases hz : resCheckV l0 = 0
 ·have HR := am0 (show lacksV (readV l0) = r1 ∧ (0 : Int) = r2 by rw [resLacksV,if_pos hz] at hR;exact Prod.mk.inj hR)
  have HFT := am0 (check_fits HF.out hz);rw [hz] at HCK;clear hR hz;go_enter Tryd.func18,Tryd.ntmps18
  go_wp2_with fail
  refine HCK.out.mono ?_
  rintro e w1 ⟨rfl,hb⟩
  have HB1 := am0 (below_step HB.out hb);clear hb;go_wp2_with fail
  refine (read_calls A0 c0 l0 _ (Kd.C_below HC.out HB1.out) HFT.out.1 HFT.out.2).mono ?_
  rintro e w2 ⟨m1,m2,rfl,h1,h2,hne,hm1,hm2,hb⟩
  have HB2 := am0 (below_step HB1.out hb);have L2 := am0 (Nat.le_trans (below_size HB1.out) h2);have HM := am0 (And.intro hm1 hm2);have NE := am0 hne;clear h1 h2 hne hm1 hm2 hb;go_wp2_with fail
  refine (lacks_calls m1 m2 4096 _ _ NE.out (Nat.le_refl _) HM.out.1 HM.out.2).mono ?_
  rintro e w3 ⟨v,rfl,hv,_,hg⟩
  have HV := am0 (Kd.R_lower hv (below_size HB2.out));have HB3 := am0 (ev_grown HB2.out hg (by intro b hb;cases hb;exact L2.out));clear hv hg;go_wp2
  go_ret2
  exact ⟨v,by rw [← HR.out.2];rfl,by rw [← HR.out.1];exact HV.out,HB3.out⟩
 have HR := am0 (show [] = r1 ∧ resCheckV l0 = r2 by rw [resLacksV,if_neg hz] at hR;exact Prod.mk.inj hR);have h8 : resCheckV l0 = 8 := (check_two HF.out).resolve_left hz;rw [h8] at HCK HR;clear hR hz h8;go_enter Tryd.func18,Tryd.ntmps18
 go_wp2_with fail
 refine HCK.out.mono ?_
 rintro e w1 ⟨rfl,hb⟩
 have HB1 := am0 (below_step HB.out hb);clear hb;go_wp2
 go_ret2
 exact ⟨.slice none 0 0,by rw [← HR.out.2];rfl,by rw [← HR.out.1];exact Kd.R_nil _ _ _ _ _,HB1.out⟩
end Go.Proofs.YtalomolellcefaaDoor.Q
namespace Go.Proofs.YtalomolellcefaaDoor.Q
open Go.RowKit Go.Maps Go.Proofs.YtalomolellcefaaDoorW.PrintWords Go.Proofs.YtalomolellcefaaDoorW.PrintLast Go.Proofs.YtalomolellcefaaDoorW.PrintMore Go.Proofs.YtalomolellcefaaDoor.Maps
def GlobOK (w : World) : Prop := w.cell? ⟨0,0,none⟩ = some (.int .i64 (-1)) ∧ w.cell? ⟨0,1,none⟩ = some (.int .i64 (-1))
theorem GlobOK.below {w W : World} (h : GlobOK w) (hb : Below w.heap.size w W) : GlobOK W := ⟨cell_keep hb h.1,cell_keep hb h.2⟩
def boundOf (t : Tab) (k : S38) (i n : Int) (s : S40) : S43 :=
 if s.f1 ≠ 0 ∧ ((t.1 s.f0).getD zD).is = true then ⟨((t.1 s.f0).getD zD).o,((t.1 s.f0).getD zD).s⟩
 else if s.f1 = 0 ∧ goneV k s = false then ⟨i,n⟩ else ⟨-1, -1⟩
def rowV (t : Tab) (k : S38) (i : Int) : Nat → List S40 → List S43
 | _,[] => []
 | n,s :: l => boundOf t k i n s :: rowV t k i (n + 1) l
def rowsV (t : Tab) : Nat → List S38 → List (List S43)
 | _,[] => []
 | i,k :: l => rowV t k i 0 k.f2.f1 :: rowsV t (i + 1) l
def doubleV (t : Tab) : Prop := ∃ s d,t.1 s = some d ∧ 1 < d.strong
noncomputable def bindV (l : List S38) : List (List S43) × Int :=
 open Classical in if resCheckV l = 0 then (if doubleV (readV l) then ([],230) else if lacksV (readV l) = [] then (rowsV (readV l) 0 l,0) else ([],231)) else ([],resCheckV l)
noncomputable def resolve_Bind.f (l0 : List (S38)) : Option ((List (List (S43))) × Int) := open Classical in if (∀ k ∈ l0,KeptFit k) then some (bindV l0) else none
theorem rowV_length (t : Tab) (k : S38) (i : Int) : ∀ (l : List S40) (n : Nat),(rowV t k i n l).length = l.length
 | [],_ => rfl
 | s :: l,n => by rw [rowV,List.length_cons,List.length_cons,rowV_length t k i l]
theorem rowV_append (t : Tab) (k : S38) (i : Int) : ∀ (l l' : List S40) (n : Nat),rowV t k i n (l ++ l') = rowV t k i n l ++ rowV t k i (n + l.length) l'
 | [],_,_ => rfl
 | s :: l,l',n => by
  rw [List.cons_append,rowV,rowV,rowV_append t k i l,List.length_cons,List.cons_append,show n + 1 + l.length = n + (l.length + 1) by omega]
theorem rowsV_append (t : Tab) : ∀ (l l' : List S38) (n : Nat),rowsV t n (l ++ l') = rowsV t n l ++ rowsV t (n + l.length) l'
 | [],_,_ => rfl
 | s :: l,l',n => by
  rw [List.cons_append,rowsV,rowsV,rowsV_append t l,List.length_cons,List.cons_append,show n + 1 + l.length = n + (l.length + 1) by omega]
theorem rowsV_length (t : Tab) : ∀ (l : List S38) (n : Nat),(rowsV t n l).length = l.length
 | [],_ => rfl
 | s :: l,n => by rw [rowsV,List.length_cons,List.length_cons,rowsV_length t l]
theorem bstore {ops : Array Oper} {rest : List Oper} {o : Oper} {a : Act} {Q : Exit → Act → World → Prop} {g n cap base : Nat} {xs : List S43} {W w0 : World} (p x : Operand) (hN : o.dst = none) (hgd : o.guard = none) (ho : o.op = .store 43 p x) (j : Nat) (y : S43)
  (haddr : a.eval p = .pointer (some ⟨g,j * 2,none⟩)) (hx : a.eval x = .agg #[.int .i64 y.f0, .int .i64 y.f1]) (HO : Kd.R k43 43 W base (fun k => k = g) (.slice (some ⟨g,0,none⟩) n cap) xs) (hj : j < n) (HB : Below base w0 W)
  (h : ∀ w1,Kd.R k43 43 w1 base (fun k => k = g) (.slice (some ⟨g,0,none⟩) n cap) (xs.set j y) → Below base w0 w1 → W.grownBy w1 (some g) → wpList Tryd.prog ops Q rest a w1) : wpList Tryd.prog ops Q (o :: rest) a W := by
 have h0 : (0 : Int) ≤ (j : Int) := by omega
 have h1 : (j : Int) < (n : Int) := by omega
 obtain ⟨c,hcl,hM,hcc,_⟩ := Kd.R_elem HO z43 (j : Int) h0 h1;refine Kd.R_store k43 base hN hgd 43 p x ho 43 (j : Int) 0 xs y _ [.int .i64 y.f0, .int .i64 y.f1] c (fun k => k = g) (fun _ => False) haddr rfl hx rfl (by kernel_rfl) (by simp [Value.oneCell']) HO h0 h1 hcl hcc (Nat.le_refl 2) ?_ (fun k hk => hk.elim) HB h;have hc2 : c.drop 2 = [] := List.drop_eq_nil_of_le (by rw [hcl];exact Nat.le_refl 2);show k43.M W base _ y (c.take 0 ++ [.int .i64 y.f0, .int .i64 y.f1] ++ c.drop 2);rw [hc2];exact k43_mkM _ _ _ y
set_option maxRecDepth 100000 in
theorem next_defs {ops : Array Oper} {rest : List Oper} {o : Oper} {a : Act} {Q : Exit → Act → World → Prop} {w : World} (hg : o.guard = none) (it : Operand) (hop : o.op = Op.next it false) (m1 r N : Nat) (D : DataW DefV) (f : ByteArray → Option DefV) (hf : ∀ k z,D.atKey (slit k) z = ((f k).map .held).getD z) (left : Lit → Bool) (cnt : Nat)
  (hit : a.eval it = .pointer (some ⟨r,0,none⟩)) (h : w.ranges Tryd.prog 9 (readEnc encD) m1 r N D left cnt)
  (hDone : Aside0 (∀ kl,left kl = false) → wpList Tryd.prog ops Q rest (a.put o.dst (.tuple #[.bool false])) w)
  (hMore : ∀ (x : ByteArray) (c : DefV) (w' : World) (cnt' : Nat),Aside0 (f x = some c) → Aside0 (w'.ranges Tryd.prog 9 (readEnc encD) m1 r N D (fun z => left z && !z.sameKey (slit x)) cnt') → Aside0 (cnt' < cnt) → Aside0 (w.grownBy w' (some r)) →
   Aside0 ((Instr.entry (.pointer (some ⟨r,0,none⟩))).run Tryd.prog w' = .ok (.tuple #[.string x,encD c]) w') → wpList Tryd.prog ops Q rest (a.put o.dst (.tuple #[.bool true, .string x,encD c])) w') : wpList Tryd.prog ops Q (o :: rest) a w := by
 have KL : Go.Maps.Keyed Tryd.prog 9 := Go.Maps.string_keyed Tryd.underlying9;refine wpList_next_ranges _ hg it hop 9 KL (readEnc encD) Value.string encD (fun key kl hk => by obtain ⟨x,rfl,_,_⟩ := Maps.keyOf_str Tryd.underlying9 hk;exact ⟨_,rfl⟩) (fun v y hv => by obtain ⟨c,rfl,_⟩ := readEnc_inv hv;exact ⟨c,rfl⟩) m1 r N D left cnt hit h (fun _ hl => hDone ⟨hl⟩) ?_;intro x c kl y w' cnt' hkey hlx hRv hat hrg1 hlt hg1 hs1 hen;have hy : y = (.held c,[]) := by rw [readEnc_mk encD_inj] at hRv;exact (Option.some.inj hRv).symm
 have hkl : kl = slit x := by
  obtain ⟨x',hx,hk',_⟩ := Maps.keyOf_str Tryd.underlying9 hkey;rw [hk',slit]
  injection hx with hx
  rw [hx]
 subst hy hkl
 have htx : f x = some c := by
  have h1 := hf x .nil;rw [hat] at h1
  cases hc : f x with
  | none => rw [hc] at h1;simp at h1
  | some d => rw [hc] at h1;simp at h1;rw [h1]
 exact hMore x c w' cnt' ⟨htx⟩ ⟨hrg1⟩ ⟨hlt⟩ ⟨hg1⟩ ⟨hen⟩
set_option maxHeartbeats 2000000 in
set_option maxRecDepth 100000 in
theorem resolve_Bind.calls (A0 : Option Addr) (c0 : Nat) (l0 : List (S38)) (r1 : List (List (S43))) (r2 : Int) (w : World) (hG : GlobOK w) (hr0 : Kd.C k38 w A0 l0.length l0) (hc0 : l0.length ≤ c0) (h : resolve_Bind.f l0 = some (r1,r2)) :
  Calls Tryd.prog 10 #[.slice A0 l0.length c0] w fun e w' => ∃ v0_ : Value,e = .returned (.tuple #[v0_, .int .i64 r2]) ∧ Kd.S (Kd.slice 43 k43) 29 w' w.heap.size (fun _ => True) v0_ r1 ∧ Below w.heap.size w w' := by
 have hu35 := Tryd.underlying35;have hu38 := Tryd.underlying38;have hu40 := Tryd.underlying40;have hu58 := Tryd.underlying58;have hu62 := Tryd.underlying62;have hu43 := Tryd.underlying43;have KL : Go.Maps.Keyed Tryd.prog 9 := Go.Maps.string_keyed Tryd.underlying9
 obtain ⟨hfit,hR⟩ : (∀ k ∈ l0,KeptFit k) ∧ bindV l0 = (r1,r2) := by
  unfold resolve_Bind.f at h
  split at h
  ·exact ⟨by assumption,Option.some.inj h⟩
  cases h
 clear h;have hck : resolve_Check.f l0 = some (resCheckV l0) := by unfold resolve_Check.f;rw [if_pos hfit]
 have HCK := am0 (resolve_Check.calls A0 c0 l0 _ w hr0 hc0 hck);have hC := hr0;have HC := am0 hC;have HB := am0 (Below.refl w.heap.size w);have HF := am0 hfit;have HGL := am0 hG;clear hfit hr0 hC hck hG
 by_cases hz : resCheckV l0 = 0
 ·have HR := am0 (show (open Classical in if doubleV (readV l0) then ([],230) else if lacksV (readV l0) = [] then (rowsV (readV l0) 0 l0,0) else ([],231)) = (r1,r2) by rw [bindV,if_pos hz] at hR;exact hR)
  have HFT := am0 (check_fits HF.out hz);rw [hz] at HCK;clear hR hz;go_enter Tryd.func10,Tryd.ntmps10
  go_wp2_with fail
  refine HCK.out.mono ?_
  rintro e w1 ⟨rfl,hb⟩
  have HB1 := am0 (below_step HB.out hb);clear hb;go_wp2_with fail
  refine (read_calls A0 c0 l0 _ (Kd.C_below HC.out HB1.out) HFT.out.1 HFT.out.2).mono ?_
  rintro e w2 ⟨m1,m2,rfl,h1,h2,hne,hm1,hm2,hb⟩
  have HB2 := am0 (below_step HB1.out hb);have L1 := am0 (Nat.le_trans (below_size HB1.out) h1);have L2 := am0 (Nat.le_trans (below_size HB1.out) h2);have M1 := am0 hm1;have M2 := am0 hm2;have NE := am0 hne;clear h1 h2 hne hm1 hm2 hb;generalize readV l0 = t at HR M1 M2;go_upto_region 5 with (fail)
  generalize hw3 : World.alloc _ _ = w3;obtain ⟨hbox,hb⟩ := alloc_facts hw3;have TB := am0 hbox;have LT := am0 (below_size HB2.out);replace HB2 := am0 (below_step HB2.out hb);replace M1 := am0 (M1.out.below hb);replace M2 := am0 (M2.out.below hb);clear hw3 hb hbox;generalize w2.heap.size = tb at TB LT ⊢;clear w2;have t0 := (bx (vs := [.map (some m1), .map (some m2)]) TB.out 0 rfl).1;obtain ⟨D,ho,hf⟩ := M1.out;have HOW := am0 ho;have HFD := am0 (fun k => (hf k).1);have HFH := am0 (fun k => (hf k).2);clear ho hf;go_wp2_with (first | (at_range;refine wpList_range_own _ rfl _ 55 rfl 9 62 KL Tryd.underlying55 (readEnc encD) m1 4096 D rfl HOW.out ?_;intro w4 hrg hgr hsz))
  go_frame;have RM := am0 hrg;have NTR := am0 (Nat.ne_of_lt (blk_lt TB.out));have N2R := am0 (Nat.ne_of_lt M2.out.lt);have LR := am0 (below_size HB2.out);replace TB := am0 (blk_grown TB.out hgr (by simp));replace M2 := am0 (M2.out.kept hgr (by simp));have HB4 := am0 (ev_grown HB2.out hgr (by intro b hb;cases hb))
  have HS0 := am0 (show ∀ s d,t.1 s = some d → Maps.has D (slit s) = false → d.strong ≤ 1 by
   intro s d hs hh;rw [HFH.out s,hs] at hh;cases hh)
  clear hrg hgr hsz t0 HB2 M1 HOW;generalize w3.heap.size = r at RM NTR N2R LR ⊢;go_loopw [2,24] (fun v2 _ wr => v2 = .slice none 0 0 ∧ ∃ (left : Lit → Bool) (cnt : Nat),Aside0 (wr.ranges Tryd.prog 9 (readEnc encD) m1 r 4096 D left cnt) ∧ Aside0 (∀ s d,t.1 s = some d → left (slit s) = false → d.strong ≤ 1) ∧ Aside0 (MapIs Tryd.prog 9 slit (Value.int .i64) wr m2 4096 t.2) ∧ Aside0 (wr.heap[tb]? = some (.cells #[.map (some m1), .map (some m2)] 58 (0,0))) ∧ Aside0 (Below w.heap.size w wr)) (fun _ _ wr => wr.rangeLeft m1 r)
  case atStart => exact ⟨rfl,_,_,RM,HS0,M2,TB,HB4⟩
  case round =>
   clear RM HS0 M2 TB HB4;obtain ⟨rfl,left,cnt,RM,HS,M2,TB,HB⟩ := hrel
   go_wp2_with (first
    | (at_next;refine next_defs rfl _ rfl m1 r 4096 D t.1 HFD.out left cnt rfl RM.out ?_ ?_))
   ·intro HL
    have HN := am0 (show ¬ doubleV t from by rintro ⟨s,d,h1,h2⟩;have := HS.out s d h1 (HL.out _);omega);have M1 : Aside0 (MapIs Tryd.prog 9 slit encD wr m1 4096 t.1) := ⟨⟨D,RM.out.owns,fun k => ⟨HFD.out k,HFH.out k⟩⟩⟩;clear HL RM HS;obtain ⟨t0,_⟩ := bx (vs := [.map (some m1), .map (some m2)]) TB.out 0 rfl;obtain ⟨t1,_⟩ := bx (vs := [.map (some m1), .map (some m2)]) TB.out 1 rfl;go_wp2_with fail
    refine (lacks_calls m1 m2 4096 t _ NE.out (Nat.le_refl _) M1.out M2.out).mono ?_
    rintro e w6 ⟨v,rfl,hv,hm1,hg⟩
    clear t0 t1;obtain ⟨A9,c9,hv9⟩ := Kd.R_slice hv;subst hv9;have HTM := am0 (M2.out.ne TB.out);replace TB := am0 (blk_grown TB.out hg (by intro e;exact HTM.out (Option.some.inj e)));replace M1 := am0 hm1;replace HB := am0 (ev_grown HB.out hg (by intro b hb;cases hb;exact L2.out));clear M2 hv hm1 hg NE L2 HTM
    by_cases hlk : lacksV t = []
    ·have hl0 : (lacksV t).length = 0 := by rw [hlk];rfl
     have HR2 := am0 (show rowsV t 0 l0 = r1 ∧ (0 : Int) = r2 by have h := HR.out;rw [if_neg HN.out,if_pos hlk] at h;exact Prod.mk.inj h);clear hlk HR;rw [hl0];clear hl0;have HO : Aside0 (Kd.S (Kd.slice 43 k43) 29 w6 w.heap.size (fun _ => True) (.slice none 0 0) (rowsV t 0 (l0.take 0))) := ⟨Kd.S_nil _ _ _ _ _⟩;go_wp2
     go_loopw [2,37] (fun v2 vi wr => ∃ (ov : Value) (i : Nat),i ≤ l0.length ∧ ov = v2 ∧ vi = .int .i64 (i : Int) ∧ Aside0 (Kd.S (Kd.slice 43 k43) 29 wr w.heap.size (fun _ => True) ov (rowsV t 0 (l0.take i))) ∧ Aside0 (MapIs Tryd.prog 9 slit encD wr m1 4096 t.1) ∧ Aside0 (wr.heap[tb]? = some (.cells #[.map (some m1), .map (some m2)] 58 (0,0))) ∧ Aside0 (Below w.heap.size w wr)) (fun _ vi _ => l0.length - (intOf vi).toNat)
     case atStart => exact ⟨_,0,by omega,rfl,rfl,HO,M1,TB,HB⟩
     case round =>
      clear HO M1 TB HB;obtain ⟨ov,i,hi,rfl,rfl,HO,M1,TB,HB⟩ := hrel;have h64 := HFT.out.1
      by_cases hlt : i < l0.length
      ·obtain ⟨ad,A2,c2,A3,c3,A4,c4,A5,c5,A6,c6,eA,x0,x1,x2,x3,x4,x5,x6,q⟩ := at_T38 HC.out (i : Int) (by omega) (by omega)
       subst eA;rw [show ((i : Int)).toNat = i from rfl] at x0 x1 x2 x3 x4 x5 x6;replace x0 := cell_keep HB.out x0;replace x1 := cell_keep HB.out x1;replace x2 := cell_keep HB.out x2;replace x3 := cell_keep HB.out x3;replace x4 := cell_keep HB.out x4;replace x5 := cell_keep HB.out x5;replace x6 := cell_keep HB.out x6;have hnum : (i : Int) < (l0.length : Int) := by omega
       have Q := am0 q;clear q;go_upto_region 15 with (fail)
       clear x0 x1 x2 x3 x4 x5 x6;generalize hw3 : World.alloc _ _ = w7;obtain ⟨hbox,hb⟩ := alloc_facts hw3;have HK := am0 hbox;have LK := am0 (below_size HB.out);replace HO := am0 (Kd.S_below HO.out hb);replace M1 := am0 (M1.out.below hb);replace TB := am0 (blk_below TB.out hb);replace HB := am0 (below_step HB.out hb);clear hw3 hb hbox;generalize wr.heap.size = kb at HK LK ⊢;have hdrop : l0.drop i = rd_T38 l0 (i : Int) :: l0.drop (i + 1) := drop_get z38 hlt
       have hmem : rd_T38 l0 (i : Int) ∈ l0 := by
        have : rd_T38 l0 (i : Int) ∈ l0.drop i := by rw [hdrop];exact List.mem_cons_self
        exact List.mem_of_mem_drop this
       have hfit := HFT.out.2 _ hmem
       have hsnoc : l0.take (i + 1) = l0.take i ++ [rd_T38 l0 (i : Int)] := by
        rw [List.take_succ_eq_append_getElem hlt]
        congr 2
        unfold rd_T38;rw [Int.toNat_natCast,List.getD_eq_getElem?_getD,List.getElem?_eq_getElem hlt,Option.getD_some]
       have HSN := am0 hsnoc;have hq := Q.out;clear hmem hdrop Q hsnoc;generalize rd_T38 l0 (i : Int) = kk at HK hfit hq HSN ⊢;obtain ⟨k0,k1,⟨secs,syms,relas,groups⟩,sects⟩ := kk
       dsimp only [ReadFit] at HK hfit hq ⊢;obtain ⟨l2,g2,l3,g3,l4,g4,l5,g5,l6,g6⟩ := hq;have hsl := g6.2.1;have hn64 := hfit.1;have HFS := am0 hfit.2;have HG := am0 (fun (s : S40) (hs : s.f3 ≤ (sects.length : Int)) (W : World) (hW : Below w.heap.size w W) => resolve_gone.calls k0 k1 A2 c2 secs A3 c3 syms A4 c4 relas A5 c5 groups A6 c6 sects s.f0 s.f1 s.f2 s.f3 s.f4 s.f5 _ W (Kd.C_below g2 hW) l2 (Kd.C_below g3 hW) l3 (Kd.C_below g4 hW) l4 (Kd.C_below g5 hW) l5 (Kd.C_below g6 hW) l6 (gone_val ⟨k0,k1,⟨secs,syms,relas,groups⟩,sects⟩ s hs hsl));have G3 := am0 g3;clear g2 g3 g4 g5 g6 l2 l3 l4 l5 l6 hfit hsl;obtain ⟨q3,_⟩ := bx (vs := [.int .i64 k0, .int .i64 k1, .slice A2 secs.length c2, .slice A3 syms.length c3, .slice A4 relas.length c4, .slice A5 groups.length c5, .slice A6 sects.length c6]) HK.out 3 rfl;have hn16 : (syms.length : Int).toNat * 16 ≤ 281474976710656 := by rw [Int.toNat_natCast];omega
       go_upto_region 16 with (first
        | ((with_reducible refine gate_dst (N := 46) rfl ?_);refine Kd.R_make k43 (w0 := w) w.heap.size 43 rfl (N := 46) rfl 29 (.tmp 45) (.tmp 45) rfl (syms.length : Int) rfl rfl Tryd.underlying29 (.agg #[.int .i64 0, .int .i64 0]) 16 (by kernel_rfl) rfl (by decide) (by decide) z43 (ok := fun k => w.heap.size ≤ k) (okp := fun _ => False) (k43_mkM _ _ _ z43) (fun _ h => h.elim) (below_size HB.out) (by omega) hn16 HB.out (below_size HB.out) ?_;intro rv w8 hrow hb hgr hown;have ROWS := am0 (And.intro hrow (And.intro hb (And.intro hgr hown)));clear hrow hb hgr hown))
       obtain ⟨hrow,hb8,hgr,g,hg1,hg2⟩ := ROWS.out;rw [Int.toNat_natCast] at hrow;obtain ⟨A8,cap,hv8⟩ := Kd.R_slice hrow;rw [List.length_replicate] at hv8;subst hv8
       obtain ⟨ad8,rfl⟩ : ∃ a,A8 = some a := by
        cases A8 with
        | none => simp [Value.ownBlock] at hg1
        | some a => exact ⟨a,rfl⟩
       obtain ⟨g',rfl⟩ := Kd.R_head hrow;obtain rfl : g' = g := by simpa [Value.ownBlock] using hg1
       have RW := am0 (show Kd.R k43 43 w8 w.heap.size (fun k => k = g') (.slice (some ⟨g',0,none⟩) syms.length cap) (rowV t ⟨k0,k1,⟨secs,syms,relas,groups⟩,sects⟩ i 0 (syms.take 0) ++ List.replicate (syms.length - 0) z43) from Kd.R_mono (Kd.R_tight rfl hrow) (fun k hk => by simpa [Value.ownBlock] using hk));have LG := am0 (Nat.le_trans (below_size HB.out) hg2);have NTG := am0 (Nat.ne_of_lt (Nat.lt_of_lt_of_le (blk_lt TB.out) hg2));have NMG := am0 (Nat.ne_of_lt (Nat.lt_of_lt_of_le M1.out.lt hg2));have NKG := am0 (Nat.ne_of_lt (Nat.lt_of_lt_of_le (blk_lt HK.out) hg2));replace HO := am0 (Kd.S_grown (Kd.S_elderB HO.out g' hg2) hgr (by simp));replace TB := am0 (blk_grown TB.out hgr (by simp));replace HK := am0 (blk_grown HK.out hgr (by simp));replace M1 := am0 (M1.out.kept hgr (by simp));replace HB := am0 hb8;clear ROWS hrow hb8 hgr hg1 hg2 q3;obtain ⟨q3,_⟩ := bx (vs := [.int .i64 k0, .int .i64 k1, .slice A2 secs.length c2, .slice A3 syms.length c3, .slice A4 relas.length c4, .slice A5 groups.length c5, .slice A6 sects.length c6]) HK.out 3 rfl;go_wp2
       go_loopw [51] (fun vj wj => ∃ (j : Nat) (cur : List S43),j ≤ syms.length ∧ vj = .int .i64 (j : Int) ∧ Aside0 (cur = rowV t ⟨k0,k1,⟨secs,syms,relas,groups⟩,sects⟩ i 0 (syms.take j) ++ List.replicate (syms.length - j) z43) ∧ Aside0 (Kd.R k43 43 wj w.heap.size (fun k => k = g') (.slice (some ⟨g',0,none⟩) syms.length cap) cur) ∧ Aside0 (Kd.S (Kd.slice 43 k43) 29 wj w.heap.size (fun k => True ∧ k ≠ g') ov (rowsV t 0 (l0.take i))) ∧ Aside0 (MapIs Tryd.prog 9 slit encD wj m1 4096 t.1) ∧ Aside0 (wj.heap[tb]? = some (.cells #[.map (some m1), .map (some m2)] 58 (0,0))) ∧ Aside0 (wj.heap[kb]? = some (.cells #[.int .i64 k0, .int .i64 k1, .slice A2 secs.length c2, .slice A3 syms.length c3, .slice A4 relas.length c4, .slice A5 groups.length c5, .slice A6 sects.length c6] 38 (0,0))) ∧ Aside0 (Below w.heap.size w wj)) (fun vj _ => syms.length - (intOf vj).toNat)
       case atStart => exact ⟨0,_,by omega,rfl,⟨rfl⟩,RW,HO,M1,TB,HK,HB⟩
       case round =>
        clear RW HO M1 TB HK HB q3;obtain ⟨j,cur,hj,rfl,HCU,RW,HO,M1,TB,HK,HB⟩ := hrel
        by_cases hlj : j < syms.length
        ·obtain ⟨ad3,e3,x0,x1,x2,x3,x4,x5⟩ := at_T40 G3.out (j : Int) (by omega) (by omega)
         subst e3;rw [show ((j : Int)).toNat = j from rfl] at x0 x1 x2 x3 x4 x5;replace x0 := cell_keep HB.out x0;replace x1 := cell_keep HB.out x1;replace x2 := cell_keep HB.out x2;replace x3 := cell_keep HB.out x3;replace x4 := cell_keep HB.out x4;replace x5 := cell_keep HB.out x5;have hnj : (j : Int) < (syms.length : Int) := by omega
         go_upto_region 19 with (fail)
         clear x0 x1 x2 x3 x4 x5;generalize hw3 : World.alloc _ _ = w9;obtain ⟨hbox,hb⟩ := alloc_facts hw3;have HY := am0 hbox
         have NYG := am0 (show wr.heap.size ≠ g' from fun e => by
          have h1 := Kd.R_lt RW.out g' rfl;omega)
         replace RW := am0 (Kd.R_below RW.out hb);replace HO := am0 (Kd.S_below HO.out hb);replace M1 := am0 (M1.out.below hb);replace TB := am0 (blk_below TB.out hb);replace HK := am0 (blk_below HK.out hb);replace HB := am0 (below_step HB.out hb);clear hw3 hb hbox;generalize wr.heap.size = sb at HY NYG ⊢;have hdj : syms.drop j = rd_T40 syms (j : Int) :: syms.drop (j + 1) := drop_get z40 hlj
         have hmem : rd_T40 syms (j : Int) ∈ syms := by
          have : rd_T40 syms (j : Int) ∈ syms.drop j := by rw [hdj];exact List.mem_cons_self
          exact List.mem_of_mem_drop this
         have htk : syms.take (j + 1) = syms.take j ++ [rd_T40 syms (j : Int)] := by
          rw [List.take_succ_eq_append_getElem hlj]
          congr 2
          unfold rd_T40;rw [Int.toNat_natCast,List.getD_eq_getElem?_getD,List.getElem?_eq_getElem hlj,Option.getD_some]
         obtain ⟨hsz,hwh⟩ := HFS.out _ hmem;have HGS := am0 (HG.out _ hwh)
         have HSET := am0 (show cur.set j (boundOf t ⟨k0,k1,⟨secs,syms,relas,groups⟩,sects⟩ i j (rd_T40 syms (j : Int))) = rowV t ⟨k0,k1,⟨secs,syms,relas,groups⟩,sects⟩ i 0 (syms.take (j + 1)) ++ List.replicate (syms.length - (j + 1)) z43 from by
          have hl1 : (rowV t ⟨k0,k1,⟨secs,syms,relas,groups⟩,sects⟩ i 0 (syms.take j)).length = j := by rw [rowV_length,List.length_take];omega
          rw [HCU.out,htk,rowV_append,List.set_append,hl1,if_neg (Nat.lt_irrefl j),Nat.sub_self,List.append_assoc]
          congr 1
          rw [show syms.length - j = (syms.length - (j + 1)) + 1 by omega,List.replicate_succ,List.set_cons_zero,List.length_take,show 0 + min j syms.length = j by omega];rfl)
         clear hmem hdj htk HCU;generalize rd_T40 syms (j : Int) = ss at HY hsz hwh HGS HSET ⊢;obtain ⟨s0,s1,s2,s3,s4,s5⟩ := ss
         dsimp only at HY hsz hwh HGS ⊢;have HKY := am0 (WideMaps.keyOf_string_mk (P := Tryd.prog) Tryd.underlying9 (s := s0) (by simp only [maxLen];omega));obtain ⟨b0,b1⟩ := HGL.out.below HB.out
         go_upto_region 20 with (first
          | (refine bstore (.tmp 59) (.tmp 58) rfl rfl rfl j ⟨-1, -1⟩ rfl rfl RW.out hlj HB.out ?_;intro w10 hr hb hg;have EV := am0 (And.intro hr (And.intro hb hg));clear hr hb hg))
         clear b0 b1;have RW := am0 EV.out.1;have HO := am0 (Kd.S_grown HO.out EV.out.2.2 (fun k hk e => hk.2 (Option.some.inj e)));have M1 := am0 (M1.out.kept EV.out.2.2 (by intro e;exact NMG.out (Option.some.inj e)));have TB := am0 (blk_grown TB.out EV.out.2.2 (by intro e;exact NTG.out (Option.some.inj e)));have HK := am0 (blk_grown HK.out EV.out.2.2 (by intro e;exact NKG.out (Option.some.inj e)));have HB := am0 EV.out.2.1;have HY := am0 (blk_grown HY.out EV.out.2.2 (by intro e;exact NYG.out (Option.some.inj e)));clear EV;obtain ⟨d,hd⟩ : ∃ d,(t.1 s0).getD zD = d := ⟨_,rfl⟩;have HD := am0 hd;clear hd;obtain ⟨d0,d1,d2,d3,d4,d5,d6⟩ := d;obtain ⟨t0,_⟩ := bx (vs := [.map (some m1), .map (some m2)]) TB.out 0 rfl;obtain ⟨y0,_⟩ := bx (vs := [.string s0, .int .u8 s1, .bool s2, .int .i64 s3, .int .i64 s4, .int .i64 s5]) HY.out 0 rfl
         go_upto_region 21 with (first
          | ((with_reducible refine gate_dst (N := 64) rfl ?_);refine wpList_look _ rfl (.tmp 61) (.tmp 63) 55 rfl (K := 9) (e := 62) slit encD encD_inj KL Tryd.underlying55 zD (Tryd.zeroValue62 _) m1 4096 t.1 rfl M1.out (.string s0) s0 rfl HKY.out ?_;rw [HD.out];simp only [encD]))
         clear t0 y0;generalize hw3 : World.alloc _ _ = w11;obtain ⟨hbox,hbx⟩ := alloc_facts hw3;have HBX := am0 hbx;have DB := am0 hbox
         have NDG := am0 (show w10.heap.size ≠ g' from fun e => by
          have h1 := Kd.R_lt RW.out g' rfl;omega)
         clear hw3 hbox hbx;have RW := am0 (Kd.R_below RW.out HBX.out);have HO := am0 (Kd.S_below HO.out HBX.out);have M1 := am0 (M1.out.below HBX.out);have TB := am0 (blk_below TB.out HBX.out);have HK := am0 (blk_below HK.out HBX.out);have HY := am0 (blk_below HY.out HBX.out);have HB := am0 (below_step HB.out HBX.out);clear HBX;generalize w10.heap.size = db at DB NDG ⊢;obtain ⟨q6,_⟩ := bx (vs := [.int .i64 d0, .int .i64 d1, .int .i64 d2, .int .i64 d3, .int .i64 d4, .int .i64 d5, .bool d6]) DB.out 6 rfl;obtain ⟨q3',_⟩ := bx (vs := [.int .i64 d0, .int .i64 d1, .int .i64 d2, .int .i64 d3, .int .i64 d4, .int .i64 d5, .bool d6]) DB.out 3 rfl;obtain ⟨q4',_⟩ := bx (vs := [.int .i64 d0, .int .i64 d1, .int .i64 d2, .int .i64 d3, .int .i64 d4, .int .i64 d5, .bool d6]) DB.out 4 rfl;obtain ⟨y0,_⟩ := bx (vs := [.string s0, .int .u8 s1, .bool s2, .int .i64 s3, .int .i64 s4, .int .i64 s5]) HY.out 0 rfl;obtain ⟨y1,_⟩ := bx (vs := [.string s0, .int .u8 s1, .bool s2, .int .i64 s3, .int .i64 s4, .int .i64 s5]) HY.out 1 rfl;obtain ⟨y2,_⟩ := bx (vs := [.string s0, .int .u8 s1, .bool s2, .int .i64 s3, .int .i64 s4, .int .i64 s5]) HY.out 2 rfl;obtain ⟨y3,_⟩ := bx (vs := [.string s0, .int .u8 s1, .bool s2, .int .i64 s3, .int .i64 s4, .int .i64 s5]) HY.out 3 rfl;obtain ⟨y4,_⟩ := bx (vs := [.string s0, .int .u8 s1, .bool s2, .int .i64 s3, .int .i64 s4, .int .i64 s5]) HY.out 4 rfl;obtain ⟨y5,_⟩ := bx (vs := [.string s0, .int .u8 s1, .bool s2, .int .i64 s3, .int .i64 s4, .int .i64 s5]) HY.out 5 rfl
         by_cases h1 : s1 = 0
         ·have e1 : (s1 != 0) = false := by simp [h1]
          have e2 : (s1 == 0) = true := by simp [h1]
          have H1 := am0 h1;clear h1;obtain ⟨gv,hgv⟩ : ∃ gv,goneV ⟨k0,k1,⟨secs,syms,relas,groups⟩,sects⟩ ⟨s0,s1,s2,s3,s4,s5⟩ = gv := ⟨_,rfl⟩;rw [hgv] at HGS;have HGV := am0 hgv;clear hgv;obtain ⟨z0,_⟩ := bx (vs := [.int .i64 k0, .int .i64 k1, .slice A2 secs.length c2, .slice (some ad3) syms.length c3, .slice A4 relas.length c4, .slice A5 groups.length c5, .slice A6 sects.length c6]) HK.out 0 rfl;obtain ⟨z1,_⟩ := bx (vs := [.int .i64 k0, .int .i64 k1, .slice A2 secs.length c2, .slice (some ad3) syms.length c3, .slice A4 relas.length c4, .slice A5 groups.length c5, .slice A6 sects.length c6]) HK.out 1 rfl;obtain ⟨z2,_⟩ := bx (vs := [.int .i64 k0, .int .i64 k1, .slice A2 secs.length c2, .slice (some ad3) syms.length c3, .slice A4 relas.length c4, .slice A5 groups.length c5, .slice A6 sects.length c6]) HK.out 2 rfl;obtain ⟨z3,_⟩ := bx (vs := [.int .i64 k0, .int .i64 k1, .slice A2 secs.length c2, .slice (some ad3) syms.length c3, .slice A4 relas.length c4, .slice A5 groups.length c5, .slice A6 sects.length c6]) HK.out 3 rfl;obtain ⟨z4,_⟩ := bx (vs := [.int .i64 k0, .int .i64 k1, .slice A2 secs.length c2, .slice (some ad3) syms.length c3, .slice A4 relas.length c4, .slice A5 groups.length c5, .slice A6 sects.length c6]) HK.out 4 rfl;obtain ⟨z5,_⟩ := bx (vs := [.int .i64 k0, .int .i64 k1, .slice A2 secs.length c2, .slice (some ad3) syms.length c3, .slice A4 relas.length c4, .slice A5 groups.length c5, .slice A6 sects.length c6]) HK.out 5 rfl;obtain ⟨z6,_⟩ := bx (vs := [.int .i64 k0, .int .i64 k1, .slice A2 secs.length c2, .slice (some ad3) syms.length c3, .slice A4 relas.length c4, .slice A5 groups.length c5, .slice A6 sects.length c6]) HK.out 6 rfl;cases gv
          ·have HCUR := am0 (show (cur.set j ⟨-1, -1⟩).set j ⟨(i : Int),(j : Int)⟩ = rowV t ⟨k0,k1,⟨secs,syms,relas,groups⟩,sects⟩ i 0 (syms.take (j + 1)) ++ List.replicate (syms.length - (j + 1)) z43 by
            rw [List.set_set, ← HSET.out,boundOf,if_neg (fun h => h.1 H1.out),if_pos ⟨H1.out,HGV.out⟩])
           go_upto_region 24 with (go_at_call 24;refine (HGS.out _ HB.out).mono ?_;rintro e w12 ⟨rfl,hb⟩;have HBX := am0 hb;clear hb)
           clear q6 q3' q4' y0 y1 y2 y3 y4 y5 z0 z1 z2 z3 z4 z5 z6;have RW := am0 (Kd.R_below RW.out HBX.out);have HO := am0 (Kd.S_below HO.out HBX.out);have M1 := am0 (M1.out.below HBX.out);have TB := am0 (blk_below TB.out HBX.out);have HK := am0 (blk_below HK.out HBX.out);have HY := am0 (blk_below HY.out HBX.out);have HB := am0 (below_step HB.out HBX.out);go_wp2_with (refine bstore (.tmp 91) (.tmp 90) rfl rfl rfl j ⟨(i : Int),(j : Int)⟩ rfl rfl RW.out hlj HB.out ?_;intro w13 hr hb hg;have EV := am0 (And.intro hr (And.intro hb hg));clear hr hb hg)
           have RW := am0 EV.out.1;have HO := am0 (Kd.S_grown HO.out EV.out.2.2 (fun k hk e => hk.2 (Option.some.inj e)));have M1 := am0 (M1.out.kept EV.out.2.2 (by intro e;exact NMG.out (Option.some.inj e)));have TB := am0 (blk_grown TB.out EV.out.2.2 (by intro e;exact NTG.out (Option.some.inj e)));have HK := am0 (blk_grown HK.out EV.out.2.2 (by intro e;exact NKG.out (Option.some.inj e)));have HB := am0 EV.out.2.1;go_roundw
           case rel => exact ⟨j + 1,_,by omega,by go_num,HCUR,RW,HO,M1,TB,HK,HB⟩
           case measure => simp [intOf];omega
          have HCUR := am0 (show cur.set j ⟨-1, -1⟩ = rowV t ⟨k0,k1,⟨secs,syms,relas,groups⟩,sects⟩ i 0 (syms.take (j + 1)) ++ List.replicate (syms.length - (j + 1)) z43 by
           rw [← HSET.out,boundOf,if_neg (fun h => h.1 H1.out),if_neg (fun h => by rw [HGV.out] at h;exact absurd h.2 (by decide))])
          go_wp2_with (go_at_call 24;refine (HGS.out _ HB.out).mono ?_;rintro e w12 ⟨rfl,hb⟩;have HBX := am0 hb;clear hb)
          have RW := am0 (Kd.R_below RW.out HBX.out);have HO := am0 (Kd.S_below HO.out HBX.out);have M1 := am0 (M1.out.below HBX.out);have TB := am0 (blk_below TB.out HBX.out);have HK := am0 (blk_below HK.out HBX.out);have HY := am0 (blk_below HY.out HBX.out);have HB := am0 (below_step HB.out HBX.out);go_roundw
          case rel => exact ⟨j + 1,_,by omega,by go_num,HCUR,RW,HO,M1,TB,HK,HB⟩
          case measure => simp [intOf];omega
         have e1 : (s1 != 0) = true := by simp [h1]
         have e2 : (s1 == 0) = false := by simp [h1]
         have H1 := am0 h1;clear h1;cases d6
         ·have HCUR := am0 (show cur.set j ⟨-1, -1⟩ = rowV t ⟨k0,k1,⟨secs,syms,relas,groups⟩,sects⟩ i 0 (syms.take (j + 1)) ++ List.replicate (syms.length - (j + 1)) z43 by
           rw [← HSET.out,boundOf,if_neg (fun h => by rw [HD.out] at h;cases h.2),if_neg (fun h => H1.out h.1)])
          go_wp2
          go_roundw
          case rel => exact ⟨j + 1,_,by omega,by go_num,HCUR,RW,HO,M1,TB,HK,HB⟩
          case measure => simp [intOf];omega
         have HCUR := am0 (show (cur.set j ⟨-1, -1⟩).set j ⟨d3,d4⟩ = rowV t ⟨k0,k1,⟨secs,syms,relas,groups⟩,sects⟩ i 0 (syms.take (j + 1)) ++ List.replicate (syms.length - (j + 1)) z43 by
          rw [List.set_set, ← HSET.out,boundOf,if_pos ⟨H1.out,by rw [HD.out]⟩,HD.out])
         go_wp2_with (refine bstore (.tmp 76) (.tmp 75) rfl rfl rfl j ⟨d3,d4⟩ rfl rfl RW.out hlj HB.out ?_;intro w13 hr hb hg;have EV := am0 (And.intro hr (And.intro hb hg));clear hr hb hg)
         have RW := am0 EV.out.1;have HO := am0 (Kd.S_grown HO.out EV.out.2.2 (fun k hk e => hk.2 (Option.some.inj e)));have M1 := am0 (M1.out.kept EV.out.2.2 (by intro e;exact NMG.out (Option.some.inj e)));have TB := am0 (blk_grown TB.out EV.out.2.2 (by intro e;exact NTG.out (Option.some.inj e)));have HK := am0 (blk_grown HK.out EV.out.2.2 (by intro e;exact NKG.out (Option.some.inj e)));have HB := am0 EV.out.2.1;go_roundw
         case rel => exact ⟨j + 1,_,by omega,by go_num,HCUR,RW,HO,M1,TB,HK,HB⟩
         case measure => simp [intOf];omega
        have he : j = syms.length := by omega
        subst he;have hnj : ¬ ((syms.length : Int) < (syms.length : Int)) := by omega
        have hcu := HCU.out;rw [List.take_length,Nat.sub_self,List.replicate_zero,List.append_nil] at hcu;subst hcu;clear HCU;have HNB := am0 (Kd.S_away HO.out (g := g') (fun k hk => hk.2));have hl56 : ((rowsV t 0 (l0.take i)).length + 1) * 24 ≤ 140737488355328 := by rw [rowsV_length,List.length_take];omega
        have HNM := am0 (show some m1 ≠ (ov : Value).ownBlock from fun e => by
         obtain ⟨cells,hc⟩ := Kd.S_typed HO.out m1 e.symm;exact M1.out.ne hc rfl)
        have HNT := am0 (Kd.S_ne HO.out TB.out (by decide))
        have HROW := am0 (show rowsV t 0 (l0.take (i + 1)) = rowsV t 0 (l0.take i) ++ [rowV t ⟨k0,k1,⟨secs,syms,relas,groups⟩,sects⟩ i 0 syms] by
         rw [HSN.out,rowsV_append,List.length_take,show 0 + min i l0.length = i by omega];rfl)
        go_wp2_with (first
         | (at_builtin;refine Kd.S_append (Kd.slice 43 k43) (w0 := w) w.heap.size rfl (.tmp 93) (.tmp 95) 25 29 (.slice none 0 0) 24 rfl Tryd.underlying25 (by kernel_rfl) rfl (by decide) (by decide) ov (rowsV t 0 (l0.take i)) (rowV t ⟨k0,k1,⟨secs,syms,relas,groups⟩,sects⟩ i 0 syms) [.slice (some ⟨g',0,none⟩) syms.length cap] (fun _ => True) (fun k => k = g') rfl rfl ⟨_,rfl,RW.out⟩ (fun k hk => ⟨trivial,by rw [hk];exact HNB.out⟩) (fun _ _ => trivial) HO.out HB.out (below_size HB.out) hl56 ?_;intro v9 w12 hs hb hg hat;have EV := am0 (And.intro hs (And.intro hb hg));clear hs hb hg hat))
        have M1 := am0 (M1.out.kept EV.out.2.2 HNM.out);have TB := am0 (blk_grown TB.out EV.out.2.2 HNT.out);have HB := am0 EV.out.2.1;have HO : Aside0 (Kd.S (Kd.slice 43 k43) 29 w12 w.heap.size (fun _ => True) v9 (rowsV t 0 (l0.take (i + 1)))) := ⟨by rw [HROW.out];exact EV.out.1⟩;go_roundw
        case rel => exact ⟨_,i + 1,by omega,rfl,by go_num,HO,M1,TB,HB⟩
        case measure => simp [intOf];omega
      have he : i = l0.length := by omega
      subst he;have hnum : ¬ ((l0.length : Int) < (l0.length : Int)) := by omega
      have hO := HO.out;rw [List.take_length,HR2.out.1] at hO;have HO2 := am0 hO;clear hO;go_wp2
      go_ret2
      exact ⟨_,by rw [← HR2.out.2];rfl,HO2.out,HB.out⟩
    have hpos : (0 : Int) < ((lacksV t).length : Int) := by
     have := List.length_pos_iff.2 hlk;omega
    have HR2 := am0 (show [] = r1 ∧ (231 : Int) = r2 by have h := HR.out;rw [if_neg HN.out,if_neg hlk] at h;exact Prod.mk.inj h);clear hlk;go_wp2
    go_ret2
    exact ⟨.slice none 0 0,by rw [← HR2.out.2];rfl,by rw [← HR2.out.1];exact Kd.S_nil _ _ _ _ _,HB.out⟩
   intro x c w5 cnt1 HTX RM1 HLT HG1 HEN;have M25 := am0 (M2.out.kept HG1.out (by intro e;exact N2R.out (Option.some.inj e)));have TB5 := am0 (blk_grown TB.out HG1.out (by intro e;exact NTR.out (Option.some.inj e)));have HB5 := am0 (ev_grown HB.out HG1.out (by intro b hb;cases hb;exact LR.out));have hen := HEN.out;clear HEN HG1;obtain ⟨d0,d1,d2,d3,d4,st,d6⟩ := c;simp only [encD] at hen ⊢
   by_cases hst : 1 < st
   ·have HD := am0 (show doubleV t from ⟨x,_,HTX.out,hst⟩)
    have HR2 := am0 (show [] = r1 ∧ (230 : Int) = r2 by have h := HR.out;rw [if_pos HD.out] at h;exact Prod.mk.inj h);go_wp2
    go_ret2
    exact ⟨.slice none 0 0,by rw [← HR2.out.2];rfl,by rw [← HR2.out.1];exact Kd.S_nil _ _ _ _ _,below_alloc HB5.out _⟩
   have HNS := am0 (show st ≤ 1 by omega);go_wp2
   have HG6 := am0 (World.grownBy_alloc w5 (.cells #[.int .i64 d0, .int .i64 d1, .int .i64 d2, .int .i64 d3, .int .i64 d4, .int .i64 st, .bool d6] 62) none);have RM6 := am0 (RM1.out.kept HG6.out (by simp) (by simp));go_roundw
   case rel => exact ⟨rfl,_,cnt1,RM6,⟨fun s d hs hl => by
    by_cases he : s = x
    ·subst he
     rw [HTX.out] at hs;have := Option.some.inj hs;subst this;exact HNS.out
    refine HS.out s d hs ?_;have hne : (slit s).sameKey (slit x) = false := Maps.sameKey_ne (fun e => he (slit_inj _ _ e));simpa [hne] using hl⟩,⟨M25.out.alloc _⟩,⟨blk_below TB5.out (below_alloc (Below.refl _ _) _)⟩,⟨below_alloc HB5.out _⟩⟩
   case measure => rw [RM6.out.left_eq,RM.out.left_eq];exact HLT.out
 have HR := am0 (show [] = r1 ∧ resCheckV l0 = r2 by rw [bindV,if_neg hz] at hR;exact Prod.mk.inj hR);have h8 : resCheckV l0 = 8 := (check_two HF.out).resolve_left hz;rw [h8] at HCK HR;clear hR hz h8;go_enter Tryd.func10,Tryd.ntmps10
 go_wp2_with fail
 refine HCK.out.mono ?_
 rintro e w1 ⟨rfl,hb⟩
 have HB1 := am0 (below_step HB.out hb);clear hb;go_wp2
 go_ret2
 exact ⟨.slice none 0 0,by rw [← HR.out.2];rfl,by rw [← HR.out.1];exact Kd.S_nil _ _ _ _ _,HB1.out⟩
end Go.Proofs.YtalomolellcefaaDoor.Q
namespace Go.Proofs.YtalomolellcefaaDoor.Q
open Go.RowKit Go.Proofs.YtalomolellcefaaDoorW.PrintWords Go.Proofs.YtalomolellcefaaDoorW.PrintLast Go.Proofs.YtalomolellcefaaDoorW.PrintMore
attribute [local go_sem] max2_int min2_int max_two min_two
theorem eqA43 (d : Nat) (w : World) (x0 y0 : Int) (x1 y1 : Int) :
  (Op.equalIn (d + 2) 43 (.agg #[.int .i64 x0, .int .i64 x1]) (.agg #[.int .i64 y0, .int .i64 y1])).run Tryd.prog w = .ok (x0 == y0 && (x1 == y1)) w := by
 refine eqA_of Tryd.underlying43 (by kernel_rfl) ?_;refine eqf_cons (by rfl) (by go_simp;rfl) (by go_simp;rfl) (by go_simp) ?_;exact eqf_last (by rfl) (by go_simp;rfl) (by go_simp;rfl) (by go_simp)
def quoinlaw23_stands.j0 : Nat → List (List (S43)) → Bool → Option (Int × Int × Bool)
 | 0,_,_ => none
 | k + 1,x4,x24 => if x24 = true then (some (0,0,false)) else (if 0 < (x4.length : Int) then (if 0 < ((rd_L19 x4 0).length : Int) then (some ((rd_T43 (rd_L19 x4 0) 0).f0,(rd_T43 (rd_L19 x4 0) 0).f1,true)) else (none)) else (none))
noncomputable def quoinlaw23_stands.f (k : Nat) (l0 : List (S38)) : Option (Int × Int × Bool) := (resolve_Bind.f l0).bind fun bt102 => (if bt102.2 = 0 then (if (bt102.1.length : Int) = 0 then (quoinlaw23_stands.j0 k bt102.1 true) else (if 0 < (bt102.1.length : Int) then (quoinlaw23_stands.j0 k bt102.1 (((rd_L19 bt102.1 0).length : Int) == 0)) else (none))) else (quoinlaw23_stands.j0 k bt102.1 true))
theorem quoinlaw23_stands.mono_l : ∀ k,(∀ y0 y1,LeO (quoinlaw23_stands.j0 k y0 y1) (quoinlaw23_stands.j0 (k + 1) y0 y1))
 | 0 => fun _ _ r h => by simp [quoinlaw23_stands.j0] at h
 | k + 1 => by
  have ih0 := quoinlaw23_stands.mono_l k;intro y0 y1;unfold quoinlaw23_stands.j0;repeat' first
  | (with_reducible exact ih0 _ _)
  | (with_reducible exact LeO.refl _)
  | (with_reducible exact LeO.none _)
  | (with_reducible refine LeO.ite ?_ ?_)
  | (with_reducible refine LeO.bind ?_ (fun _ => ?_))
  | exact ih0 _ _
  | exact LeO.none _
  | refine LeO.ite ?_ ?_
  | refine LeO.bind ?_ (fun _ => ?_)
theorem quoinlaw23_stands.mono : ∀ a0 k,LeO (quoinlaw23_stands.f k a0) (quoinlaw23_stands.f (k + 1) a0) := by
 intro a0 k;have ih0 := quoinlaw23_stands.mono_l k;unfold quoinlaw23_stands.f
 repeat' first
   | (with_reducible exact ih0 _ _)
   | (with_reducible exact LeO.refl _)
   | (with_reducible exact LeO.none _)
   | (with_reducible refine LeO.ite ?_ ?_)
   | (with_reducible refine LeO.bind ?_ (fun _ => ?_))
   | exact ih0 _ _
   | exact LeO.none _
   | refine LeO.ite ?_ ?_
   | refine LeO.bind ?_ (fun _ => ?_)
set_option maxHeartbeats 8000000 in
set_option maxRecDepth 100000 in
theorem quoinlaw23_stands.calls (k : Nat) (A0 : Option Addr) (c0 : Nat) (l0 : List (S38)) (r1 : Int) (r2 : Int) (r3 : Bool) (w : World) (hG : GlobOK w) (hr0 : Kd.C k38 w A0 l0.length l0) (hc0 : l0.length ≤ c0) (h : quoinlaw23_stands.f k l0 = some (r1,r2,r3)) :
  Calls Tryd.prog 12 #[.slice A0 l0.length c0] w fun e w' => e = .returned (.tuple #[.agg #[.int .i64 r1, .int .i64 r2], .bool r3]) ∧ Below w.heap.size w w' := by
 have hu43 := Tryd.underlying43;have HR0 := am0 hr0;have HC0 := am0 hc0;clear hr0 hc0;have HB := am0 (Below.refl w.heap.size w);have H : ((resolve_Bind.f l0).bind fun bt102 => (if bt102.2 = 0 then (if (bt102.1.length : Int) = 0 then (quoinlaw23_stands.j0 k bt102.1 true) else (if 0 < (bt102.1.length : Int) then (quoinlaw23_stands.j0 k bt102.1 (((rd_L19 bt102.1 0).length : Int) == 0)) else (none))) else (quoinlaw23_stands.j0 k bt102.1 true))) = some (r1,r2,r3) := h;clear h;replace H := Option.bind_eq_some_iff.mp H;obtain ⟨⟨t102,t103⟩,A20,H⟩ := H;replace H : (if t103 = 0 then (if (t102.length : Int) = 0 then (quoinlaw23_stands.j0 k t102 true) else (if 0 < (t102.length : Int) then (quoinlaw23_stands.j0 k t102 (((rd_L19 t102 0).length : Int) == 0)) else (none))) else (quoinlaw23_stands.j0 k t102 true)) = some (r1,r2,r3) := H;have A2 := am0 A20;clear A20;have HC3 := am0 H;clear H;go_enter Tryd.func12,Tryd.ntmps12
 go_upto_region 2 with (first | ((with_reducible refine gate_dst (N := 2) rfl ?_);(try (refine gate_guard (by rfl) ?_;dsimp only));refine box_event ?hg (N := 2) ?hd (cs := #[.int .i64 0, .int .i64 0]) (t := 43) ?hr ?_;(case hd => rfl);(case hg => rfl);(case hr => first | (go_simp;done) | (go_simp;rfl));intro gb101 hg w4 hbox hb;have n0_ := am0 (below_step (by repeat (first | (with_reducible first | exact HB.out | apply below_alloc | apply pw_below_drewN | apply below_drew1) | exact HB.out)) hb);have n1_ := am0 (hbox);have n2_ := am0 ((by rw [hg];exact (below_size (by repeat (first | (with_reducible first | exact HB.out | apply below_alloc | apply pw_below_drewN | apply below_drew1) | exact HB.out))) : w.heap.size ≤ gb101));have n3_ := am0 ((by rw [hg];exact (below_size (by repeat (first | (with_reducible first | exact HB.out | apply below_alloc | apply pw_below_drewN | apply below_drew1) | exact HB.out))) : w.heap.size ≤ gb101));clear HB;have HB := n0_;have BK101 := n1_;have GW101 := n2_;have GE101 := n3_;clear n0_ n1_ n2_ n3_;clear hb hbox hg) | ((with_reducible refine gate_callee (f := 10) rfl ?_);refine goesL_ (some 8) rfl rfl Tryd.func10 (by kernel_rfl) rfl #[.slice A0 l0.length c0] rfl (by (try simp only [List.map_toArray,List.map_cons,List.map_nil]);first | done | rfl | (simp only [List.length_drop,List.length_take];rfl)) ?_;(with_reducible refine (resolve_Bind.calls _ _ l0 t102 t103 _ ?side3 ?side1 ?side2 A2.out).mono ?_);(case side1 => repeat (first | exact (Kd.C_below HR0.out HB.out) | (with_reducible refine Kd.C_alloc ?_ _) | (with_reducible refine Kd.C_drewN ?_ _) | (with_reducible refine Kd.C_drew ?_)));(case side2 => exact HC0.out);(case side3 => exact GlobOK.below hG (by repeat (first | (with_reducible first | exact HB.out | apply below_alloc | apply pw_below_drewN | apply below_drew1 | refine below_set ?_ GE101.out) | exact HB.out)));rintro e w5 ⟨v104,rfl,ho0,hb⟩;refine ⟨_,rfl, ?_⟩;have n0_ := am0 (Kd.S_lower (Kd.S_newB ho0 (g := gb101) (o := .cells #[.int .i64 0, .int .i64 0] 43 (0,0)) (by (with_reducible repeat (first | refine blk_drewN ?_ _ | refine blk_drew ?_ | refine blk_alloc ?_ _));exact BK101.out)) (below_size (by repeat (first | (with_reducible first | exact HB.out | apply below_alloc | apply pw_below_drewN | apply below_drew1 | refine below_set ?_ GE101.out) | exact HB.out))));have n1_ := am0 (blk_below (g := gb101) (o := .cells #[.int .i64 0, .int .i64 0] 43 (0,0)) (by (with_reducible repeat (first | refine blk_drewN ?_ _ | refine blk_drew ?_ | refine blk_alloc ?_ _));exact BK101.out) hb);have n2_ := am0 (below_step (by repeat (first | (with_reducible first | exact HB.out | apply below_alloc | apply pw_below_drewN | apply below_drew1 | refine below_set ?_ GE101.out) | exact HB.out)) hb);clear BK101;clear HB;have HO105 := n0_;have BK101 := n1_;have HB := n2_;clear n0_ n1_ n2_;(try clear hb);(try clear hb2);(try clear hk);(try clear hi);(try clear ho0)))
 (try go_frame)
 go_cut [24] (fun v24 wc => ∃ (kq : Nat) (x24_2 : Bool),v24 = .bool x24_2 ∧ Aside0 (quoinlaw23_stands.j0 kq t102 x24_2 = some (r1,r2,r3)) ∧ Aside0 (kq ≤ k) ∧ Aside0 (Kd.S (Kd.slice 43 k43) 29 wc w.heap.size (fun k_ => k_ ≠ gb101) v104 t102) ∧ Aside0 (wc.heap[gb101]? = some (.cells #[.int .i64 0, .int .i64 0] 43 (0,0))) ∧ Aside0 (Below w.heap.size w wc))
 case first =>
  have H := HC3.out;clear HC3
  by_cases c6 : t103 = 0
  ·rw [if_pos c6] at H
   have c6b0 : (t103 == 0) = true := beq_iff_eq.mpr c6;have c6b1 : (t103 != 0) = false := bne_eq_false_iff_eq.mpr c6;clear c6
   (first | rw [c6b0] | (simp only [i64_w,i32_w];rw [c6b0]) | skip)
   by_cases c7 : (t102.length : Int) = 0
   ·rw [if_pos c7] at H
    have c7b0 : ((t102.length : Int) == 0) = true := beq_iff_eq.mpr c7;have c7b1 : ((t102.length : Int) != 0) = false := bne_eq_false_iff_eq.mpr c7;clear c7;have H' := am0 H;clear H;obtain ⟨Ao8,co8,eo8⟩ := Kd.S_slice HO105.out;subst eo8;go_wp2
    go_meet
    case rel => exact ⟨_,(true),(by first | rfl | (simp;done) | (simp [*];done)),H',⟨by first | omega | exact Nat.le_refl _⟩,⟨by (with_reducible repeat (first | apply Kd.S_alloc | apply Kd.S_drewN | apply Kd.S_drew));exact Kd.S_mono HO105.out (fun _ hk => hk.2)⟩,⟨by (with_reducible repeat (first | refine blk_drewN ?_ _ | refine blk_drew ?_ | refine blk_alloc ?_ _));exact BK101.out⟩,⟨by repeat (first | (with_reducible first | exact HB.out | apply below_alloc | apply pw_below_drewN | apply below_drew1 | refine below_set ?_ GE101.out) | exact HB.out)⟩⟩
   rw [if_neg c7] at H;have c7b0 : ((t102.length : Int) == 0) = false := beq_eq_false_iff_ne.mpr c7;have c7b1 : ((t102.length : Int) != 0) = true := bne_iff_ne.mpr c7;have c7b2 : ¬ (t102 = []) := fun h_ => c7 (by rw [h_];rfl)
   by_cases c9 : 0 < (t102.length : Int)
   ·rw [if_pos c9] at H
    have c9b0 : decide (0 < (t102.length : Int)) = true := decide_eq_true c9;have c9b1 : decide (0 < t102.length) = true := decide_eq_true (by omega);clear c9;have H' := am0 H;clear H;obtain ⟨Ao10,co10,eo10⟩ := Kd.S_slice HO105.out;subst eo10;have p106 : 0 ≤ (0 : Int) := (by omega);have q106 : 0 < (t102.length : Int) := of_decide_eq_true (by first | (with_reducible assumption) | assumption);obtain ⟨ad106,A106_0,c106_0,e106,hx106_0,hl106_0,hi106_0⟩ := at_L19 (Kd.S_reads' HO105.out).2.2 0 p106 q106;cases e106;obtain ⟨ce106,hce106,hMe106,hcc106⟩ := Kd.S_get HO105.out [] 0 p106 (by first | exact q106 | exact of_decide_eq_true (by first | (with_reducible assumption) | assumption) | (have e_ := (Kd.S_reads' HO105.out).1;omega));obtain ⟨ve106_0,rfl,ge106_0⟩ := hMe106;have hv106_0 := hcc106 0 _ rfl;rw [Nat.add_zero,show ((Kd.slice 43 k43)).sz = 1 from rfl,Nat.mul_one] at hv106_0;replace hv106_0 := Option.some.inj (hv106_0.symm.trans hx106_0);rw [hv106_0] at ge106_0;have HL106_0 := am0 (show Kd.R k43 43 _ _ _ _ (rd_L19 t102 0) from ge106_0);clear hv106_0 ge106_0;clear hcc106 hce106;have qi106 : (0 < t102.length) = True := eq_true (by omega)
    (try rw [show ((0 : Int)).toNat = 0 from rfl] at hx106_0)
    (try rw [Addr.add_zero'] at hx106_0)
    have HR106_0 := am0 hi106_0;have HC106_0 := am0 hl106_0;clear hi106_0 hl106_0;replace p106 := eq_true p106;replace q106 := eq_true q106;go_wp2
    go_meet
    case rel => exact ⟨_,((((rd_L19 t102 0).length : Int) == 0)),(by first | rfl | (simp;done) | (simp [*];done)),H',⟨by first | omega | exact Nat.le_refl _⟩,⟨by (with_reducible repeat (first | apply Kd.S_alloc | apply Kd.S_drewN | apply Kd.S_drew));exact Kd.S_mono HO105.out (fun _ hk => hk.2)⟩,⟨by (with_reducible repeat (first | refine blk_drewN ?_ _ | refine blk_drew ?_ | refine blk_alloc ?_ _));exact BK101.out⟩,⟨by repeat (first | (with_reducible first | exact HB.out | apply below_alloc | apply pw_below_drewN | apply below_drew1 | refine below_set ?_ GE101.out) | exact HB.out)⟩⟩
   rw [if_neg c9] at H;exact absurd H (by simp)
  rw [if_neg c6] at H;have c6b0 : (t103 == 0) = false := beq_eq_false_iff_ne.mpr c6;have c6b1 : (t103 != 0) = true := bne_iff_ne.mpr c6
  (first | rw [c6b0] | (simp only [i64_w,i32_w];rw [c6b0]) | skip)
  have H' := am0 H;clear H;go_wp2
  go_meet
  case rel => exact ⟨_,(true),(by first | rfl | (simp;done) | (simp [*];done)),H',⟨by first | omega | exact Nat.le_refl _⟩,⟨by (with_reducible repeat (first | apply Kd.S_alloc | apply Kd.S_drewN | apply Kd.S_drew));exact Kd.S_mono HO105.out (fun _ hk => hk.2)⟩,⟨by (with_reducible repeat (first | refine blk_drewN ?_ _ | refine blk_drew ?_ | refine blk_alloc ?_ _));exact BK101.out⟩,⟨by repeat (first | (with_reducible first | exact HB.out | apply below_alloc | apply pw_below_drewN | apply below_drew1 | refine below_set ?_ GE101.out) | exact HB.out)⟩⟩
 case rest =>
  clear HC3;try clear c1
  try clear p1
  try clear q1
  try clear hx1
  try clear qi1
  try clear p2
  try clear c6
  try clear c6b0
  try clear c6b1
  try clear c7
  try clear c7b0
  try clear c7b1
  try clear c7b2
  try clear c9
  try clear c9b0
  try clear c9b1
  try clear c10
  try clear p10
  try clear q10
  try clear hx10
  try clear qi10
  try clear hx106_0
  try clear p106
  try clear q106
  obtain ⟨kq,x24_2,rfl,HA,HJ2,HO_4,BK101,HB⟩ := hcut
  cases kq with
  | zero => exact absurd HA.out (by simp [quoinlaw23_stands.j0])
  | succ kj2 =>
   have H := HA.out;clear HA;simp only [quoinlaw23_stands.j0] at H
   by_cases c11 : x24_2 = true
   ·subst c11
    have H1 : (some (0,0,false)) = some (r1,r2,r3) := by rw [if_pos rfl] at H;exact H
    clear H;have H := H1;clear H1;simp only [Option.some.injEq,Prod.mk.injEq] at H;obtain ⟨rfl,rfl,rfl⟩ := H;have hcz12_0 : wc.cell? ⟨gb101,0,none⟩ = some (.int .i64 0) := (blk_cell BK101.out 0).trans rfl;have hcz12_1 : wc.cell? ⟨gb101,1,none⟩ = some (.int .i64 0) := (blk_cell BK101.out 1).trans rfl;have hfz12_0 := blk_frozen BK101.out 0;have hfz12_1 := blk_frozen BK101.out 1;go_wp2
    refine bodyPost_ret (results_ct rfl _ _ gb101 43 #[.int .i64 0, .int .i64 0] (0,0) _ rfl (by (with_reducible repeat (first | refine blk_drewN ?_ _ | refine blk_drew ?_ | refine blk_alloc ?_ _));refine blk_put (cs := #[.int .i64 0, .int .i64 0]) ?_ 1 _ rfl;(with_reducible repeat (first | refine blk_drewN ?_ _ | refine blk_drew ?_ | refine blk_alloc ?_ _));refine blk_put (cs := #[.int .i64 0, .int .i64 0]) ?_ 0 _ rfl;(with_reducible repeat (first | refine blk_drewN ?_ _ | refine blk_drew ?_ | refine blk_alloc ?_ _));exact BK101.out) Tryd.underlying43 rfl (by kernel_rfl)) rfl ?_;exact ⟨by first | rfl | (simp [errW_none,errW_some] <;> rfl) | (simp [*,errW_none,errW_some] <;> rfl),by repeat (first | (with_reducible first | exact HB.out | apply below_alloc | apply pw_below_drewN | apply below_drew1 | refine below_set ?_ GE101.out) | exact HB.out)⟩
   replace c11 := Bool.eq_false_iff.mpr c11;subst c11;have H1 : (if 0 < (t102.length : Int) then (if 0 < ((rd_L19 t102 0).length : Int) then (some ((rd_T43 (rd_L19 t102 0) 0).f0,(rd_T43 (rd_L19 t102 0) 0).f1,true)) else (none)) else (none)) = some (r1,r2,r3) := by rw [if_neg (show ¬ (false = true) by decide)] at H;exact H
   clear H;have H := H1;clear H1
   by_cases c13 : 0 < (t102.length : Int)
   ·rw [if_pos c13] at H
    have c13b0 : decide (0 < (t102.length : Int)) = true := decide_eq_true c13;have c13b1 : decide (0 < t102.length) = true := decide_eq_true (by omega);clear c13
    by_cases c14 : 0 < ((rd_L19 t102 0).length : Int)
    ·rw [if_pos c14] at H
     have c14b0 : decide (0 < ((rd_L19 t102 0).length : Int)) = true := decide_eq_true c14;have c14b1 : decide (0 < (rd_L19 t102 0).length) = true := decide_eq_true (by omega);clear c14;simp only [Option.some.injEq,Prod.mk.injEq] at H;obtain ⟨rfl,rfl,rfl⟩ := H;obtain ⟨Ao15,co15,eo15⟩ := Kd.S_slice HO_4.out;subst eo15;have p107 : 0 ≤ (0 : Int) := (by omega);have q107 : 0 < (t102.length : Int) := of_decide_eq_true (by first | (with_reducible assumption) | assumption);obtain ⟨ad107,A107_0,c107_0,e107,hx107_0,hl107_0,hi107_0⟩ := at_L19 (Kd.S_reads' HO_4.out).2.2 0 p107 q107;cases e107;obtain ⟨ce107,hce107,hMe107,hcc107⟩ := Kd.S_get HO_4.out [] 0 p107 (by first | exact q107 | exact of_decide_eq_true (by first | (with_reducible assumption) | assumption) | (have e_ := (Kd.S_reads' HO_4.out).1;omega));obtain ⟨ve107_0,rfl,ge107_0⟩ := hMe107;have hv107_0 := hcc107 0 _ rfl;rw [Nat.add_zero,show ((Kd.slice 43 k43)).sz = 1 from rfl,Nat.mul_one] at hv107_0;replace hv107_0 := Option.some.inj (hv107_0.symm.trans hx107_0);rw [hv107_0] at ge107_0;have HL107_0 := am0 (show Kd.R k43 43 _ _ _ _ (rd_L19 t102 0) from ge107_0);clear hv107_0 ge107_0;clear hcc107 hce107;have qi107 : (0 < t102.length) = True := eq_true (by omega)
     (try rw [show ((0 : Int)).toNat = 0 from rfl] at hx107_0)
     (try rw [Addr.add_zero'] at hx107_0)
     have HR107_0 := am0 hi107_0;have HC107_0 := am0 hl107_0;clear hi107_0 hl107_0;replace p107 := eq_true p107;replace q107 := eq_true q107;have p108 : 0 ≤ (0 : Int) := (by omega);have q108 : 0 < ((rd_L19 t102 0).length : Int) := of_decide_eq_true (by first | (with_reducible assumption) | assumption);obtain ⟨ad108,e108,hx108_0,hx108_1⟩ := at_T43 (by repeat (first | (with_reducible exact HR107_0.out) | (with_reducible refine Kd.C_alloc ?_ _) | (with_reducible refine Kd.C_drewN ?_ _) | (with_reducible refine Kd.C_drew ?_) | exact HR107_0.out)) 0 p108 q108;cases e108;have qi108 : (0 < (rd_L19 t102 0).length) = True := eq_true (by omega)
     (try rw [show ((0 : Int)).toNat = 0 from rfl] at hx108_0)
     (try rw [show 0 * 2 = 0 from rfl] at hx108_0)
     (try rw [Addr.add_zero'] at hx108_0)
     (try rw [show ((0 : Int)).toNat = 0 from rfl] at hx108_1)
     (try rw [show 0 * 2 = 0 from rfl] at hx108_1)
     (try rw [Addr.add_zero'] at hx108_1)
     replace p108 := eq_true p108;replace q108 := eq_true q108;have hcz16_0 : wc.cell? ⟨gb101,0,none⟩ = some (.int .i64 0) := (blk_cell BK101.out 0).trans rfl;have hcz16_1 : wc.cell? ⟨gb101,1,none⟩ = some (.int .i64 0) := (blk_cell BK101.out 1).trans rfl;have hfz16_0 := blk_frozen BK101.out 0;have hfz16_1 := blk_frozen BK101.out 1;go_wp2
     refine bodyPost_ret (results_ct rfl _ _ gb101 43 #[.int .i64 ((rd_T43 (rd_L19 t102 0) 0).f0), .int .i64 ((rd_T43 (rd_L19 t102 0) 0).f1)] (0,0) _ rfl (by (with_reducible repeat (first | refine blk_drewN ?_ _ | refine blk_drew ?_ | refine blk_alloc ?_ _));refine blk_put (cs := #[.int .i64 ((rd_T43 (rd_L19 t102 0) 0).f0), .int .i64 0]) ?_ 1 _ rfl;(with_reducible repeat (first | refine blk_drewN ?_ _ | refine blk_drew ?_ | refine blk_alloc ?_ _));refine blk_put (cs := #[.int .i64 0, .int .i64 0]) ?_ 0 _ rfl;(with_reducible repeat (first | refine blk_drewN ?_ _ | refine blk_drew ?_ | refine blk_alloc ?_ _));exact BK101.out) Tryd.underlying43 rfl (by kernel_rfl)) rfl ?_;exact ⟨by first | rfl | (simp [errW_none,errW_some] <;> rfl) | (simp [*,errW_none,errW_some] <;> rfl),by repeat (first | (with_reducible first | exact HB.out | apply below_alloc | apply pw_below_drewN | apply below_drew1 | refine below_set ?_ GE101.out) | exact HB.out)⟩
    rw [if_neg c14] at H;exact absurd H (by simp)
   rw [if_neg c13] at H;exact absurd H (by simp)
def quoinlaw23_kept.l0 : Nat → List (S40) → List (S38) → Int → Option ((List (S38)) × (List (S40)))
 | 0,_,_,_ => none
 | k + 1,x0,x3,x4 => if x4 < (x0.length : Int) then (if 0 ≤ x4 then ((some (x0.set (x4 : Int).toNat (⟨(⟨#[102]⟩ : ByteArray),(rd_T40 x0 x4).f1,(rd_T40 x0 x4).f2,(rd_T40 x0 x4).f3,(rd_T40 x0 x4).f4,(rd_T40 x0 x4).f5⟩ : S40) : List (S40))).bind fun y109 => (if x3.length < 1034834473200 then (quoinlaw23_kept.l0 k y109 (x3 ++ [(⟨x4,(-1),(⟨([] : List (S72)),(([(⟨(rd_T40 y109 x4).f0,(rd_T40 y109 x4).f1,(rd_T40 y109 x4).f2,(rd_T40 y109 x4).f3,(rd_T40 y109 x4).f4,(rd_T40 y109 x4).f5⟩ : S40)] : List (S40))),([] : List (S94)),([] : List (S68))⟩ : S35),([] : List Bool)⟩ : S38)]) (wrap64 (x4 + 1))) else (none))) else (none)) else (some (x3,x0))
def quoinlaw23_kept.f (k : Nat) (l0 : List (S40)) : Option ((List (S38)) × (List (S40))) := quoinlaw23_kept.l0 k l0 ([] : List (S38)) 0
theorem quoinlaw23_kept.mono_l : ∀ k,(∀ y0 y1 y2,LeO (quoinlaw23_kept.l0 k y0 y1 y2) (quoinlaw23_kept.l0 (k + 1) y0 y1 y2))
 | 0 => fun _ _ _ r h => by simp [quoinlaw23_kept.l0] at h
 | k + 1 => by
  have ih0 := quoinlaw23_kept.mono_l k;intro y0 y1 y2;unfold quoinlaw23_kept.l0;repeat' first
  | (with_reducible exact ih0 _ _ _)
  | (with_reducible exact LeO.refl _)
  | (with_reducible exact LeO.none _)
  | (with_reducible refine LeO.ite ?_ ?_)
  | (with_reducible refine LeO.bind ?_ (fun _ => ?_))
  | exact ih0 _ _ _
  | exact LeO.none _
  | refine LeO.ite ?_ ?_
  | refine LeO.bind ?_ (fun _ => ?_)
theorem quoinlaw23_kept.mono : ∀ a0 k,LeO (quoinlaw23_kept.f k a0) (quoinlaw23_kept.f (k + 1) a0) := by
 intro a0 k;have ih0 := quoinlaw23_kept.mono_l k;unfold quoinlaw23_kept.f
 repeat' first
   | (with_reducible exact ih0 _ _ _)
   | (with_reducible exact LeO.refl _)
   | (with_reducible exact LeO.none _)
   | (with_reducible refine LeO.ite ?_ ?_)
   | (with_reducible refine LeO.bind ?_ (fun _ => ?_))
   | exact ih0 _ _ _
   | exact LeO.none _
   | refine LeO.ite ?_ ?_
   | refine LeO.bind ?_ (fun _ => ?_)
set_option maxHeartbeats 8000000 in
set_option maxRecDepth 100000 in
theorem quoinlaw23_kept.calls (k : Nat) (P0_ : Nat → Prop) (u9000_ : Value) (l0 : List (S40)) (r1 : List (S38)) (r2 : List (S40)) (w0 w : World) (hB : Below w0.heap.size w0 w) (ho0 : Kd.R k40 40 w w0.heap.size P0_ u9000_ l0) (h : quoinlaw23_kept.f k l0 = some (r1,r2)) :
  Calls Tryd.prog 13 #[u9000_] w fun e w' => ∃ v0_ : Value,e = .returned (v0_) ∧ Kd.N k38 38 w' w.heap.size (fun k_ => (P0_ k_ ∨ w.heap.size ≤ k_) ∧ some k_ ≠ (u9000_ : Value).ownBlock) v0_ r1 ∧ Kd.R k40 40 w' w0.heap.size (fun k_ => (P0_ k_ ∨ w.heap.size ≤ k_)) u9000_ r2 ∧ Below w0.heap.size w0 w' ∧ Kept w w' (fun k_ => P0_ k_) := by
 have hu40 := Tryd.underlying40;have hu35 := Tryd.underlying35;have hu38 := Tryd.underlying38;have HO0 := am0 (show Kd.R k40 40 w w0.heap.size (fun k_ => (P0_ k_ ∨ w.heap.size ≤ k_)) u9000_ l0 from Kd.R_mono ho0 (fun k_ hk => (.inl hk)));have HK := am0 (Kept.refl w (fun k_ => P0_ k_));have HW0 := am0 hB.size;have HB := am0 hB;clear hB;have H : (quoinlaw23_kept.l0 k l0 ([] : List (S38)) 0) = some (r1,r2) := h;clear h;have H' := am0 H;clear H;go_enter Tryd.func13,Tryd.ntmps13
 go_wp2
 go_loopg [3,4] k (fun kq v3 v4 w' => ∃ (x0_1 : List (S40)) (x3_1 : List (S38)) (x4_1 : Int),v4 = .int .i64 x4_1 ∧ Aside0 (quoinlaw23_kept.l0 kq x0_1 x3_1 x4_1 = some (r1,r2)) ∧ Aside0 (kq ≤ k) ∧ Aside0 (Kd.R k40 40 w' w0.heap.size (fun k_ => (P0_ k_ ∨ w.heap.size ≤ k_)) u9000_ x0_1) ∧ Aside0 (Kd.N k38 38 w' w.heap.size (fun k_ => (P0_ k_ ∨ w.heap.size ≤ k_) ∧ some k_ ≠ (u9000_ : Value).ownBlock) v3 x3_1) ∧ Aside0 (Kept w w' (fun k_ => P0_ k_)) ∧ Aside0 (Below w0.heap.size w0 w'))
 case atStart => exact ⟨(l0),(([] : List (S38))),(0),(by first | rfl | (simp;done) | (simp [*];done)),H',⟨Nat.le_refl _⟩,⟨by (with_reducible repeat (first | apply Kd.R_alloc | apply Kd.R_drewN | apply Kd.R_drew));exact HO0.out⟩,⟨by first | exact Kd.R_nil _ _ _ _ _ | exact Kd.N_nil _ _ _ _ _ | exact Kd.V_nil _ _ _ _ _ | exact Kd.Q_nil _ _ _ _ _ | exact Kd.S_nil _ _ _ _ _⟩,⟨by repeat (first | (with_reducible first | exact HK.out | apply Kept.alloc | apply Kept.drewN | apply Kept.drew) | exact HK.out)⟩,⟨by repeat (first | (with_reducible first | exact HB.out | apply below_alloc | apply pw_below_drewN | apply below_drew1) | exact HB.out)⟩⟩
 case round =>
  clear H';try clear c1
  obtain ⟨x0_1,x3_1,x4_1,rfl,HA,HK1,HO_0,HO_3,HK,HB⟩ := hrel
  cases gk with
  | zero => exact absurd HA.out (by simp [quoinlaw23_kept.l0])
  | succ k1 =>
   have H := HA.out;clear HA;simp only [quoinlaw23_kept.l0] at H
   by_cases c2 : x4_1 < (x0_1.length : Int)
   ·rw [if_pos c2] at H
    have c2b0 : decide (x4_1 < (x0_1.length : Int)) = true := decide_eq_true c2;clear c2
    by_cases c3 : 0 ≤ x4_1
    ·rw [if_pos c3] at H
     have c3b0 : decide (0 ≤ x4_1) = true := decide_eq_true c3;clear c3;obtain ⟨y109,hy109⟩ : ∃ y_ : List (S40),y_ = (x0_1.set (x4_1 : Int).toNat (⟨(⟨#[102]⟩ : ByteArray),(rd_T40 x0_1 x4_1).f1,(rd_T40 x0_1 x4_1).f2,(rd_T40 x0_1 x4_1).f3,(rd_T40 x0_1 x4_1).f4,(rd_T40 x0_1 x4_1).f5⟩ : S40)) := ⟨_,rfl⟩;replace H : (if x3_1.length < 1034834473200 then (quoinlaw23_kept.l0 k1 y109 (x3_1 ++ [(⟨x4_1,(-1),(⟨([] : List (S72)),(([(⟨(rd_T40 y109 x4_1).f0,(rd_T40 y109 x4_1).f1,(rd_T40 y109 x4_1).f2,(rd_T40 y109 x4_1).f3,(rd_T40 y109 x4_1).f4,(rd_T40 y109 x4_1).f5⟩ : S40)] : List (S40))),([] : List (S94)),([] : List (S68))⟩ : S35),([] : List Bool)⟩ : S38)]) (wrap64 (x4_1 + 1))) else (none)) = some (r1,r2) := by first | (rw [hy109];with_reducible exact H) | (have H2_ := (Option.bind_some _ _).symm.trans H;rw [hy109];with_reducible exact H2_) | (have H2_ := (Option.bind_some _ _).symm.trans H;with_reducible exact H2_) | with_reducible exact H | (rw [hy109];exact H) | exact H
     have Ny109 := am0 hy109;clear hy109;obtain ⟨y111,hy111⟩ : ∃ y_ : List (S40),y_ = (([(⟨(rd_T40 y109 x4_1).f0,(rd_T40 y109 x4_1).f1,(rd_T40 y109 x4_1).f2,(rd_T40 y109 x4_1).f3,(rd_T40 y109 x4_1).f4,(rd_T40 y109 x4_1).f5⟩ : S40)] : List (S40))) := ⟨_,rfl⟩;replace H : (if x3_1.length < 1034834473200 then (quoinlaw23_kept.l0 k1 y109 (x3_1 ++ [(⟨x4_1,(-1),(⟨([] : List (S72)),y111,([] : List (S94)),([] : List (S68))⟩ : S35),([] : List Bool)⟩ : S38)]) (wrap64 (x4_1 + 1))) else (none)) = some (r1,r2) := by first | (rw [hy111];with_reducible exact H) | (have H2_ := (Option.bind_some _ _).symm.trans H;rw [hy111];with_reducible exact H2_) | (have H2_ := (Option.bind_some _ _).symm.trans H;with_reducible exact H2_) | with_reducible exact H | (rw [hy111];exact H) | exact H
     have Ny111 := am0 hy111;clear hy111
     by_cases c5 : x3_1.length < 1034834473200
     ·rw [if_pos c5] at H
      have LMc5 := am0 c5;clear c5;obtain ⟨y114,hy114⟩ : ∃ y_ : List (S38),y_ = (x3_1 ++ [(⟨x4_1,(-1),(⟨([] : List (S72)),y111,([] : List (S94)),([] : List (S68))⟩ : S35),([] : List Bool)⟩ : S38)]) := ⟨_,rfl⟩;replace H : (quoinlaw23_kept.l0 k1 y109 y114 (wrap64 (x4_1 + 1))) = some (r1,r2) := by first | (rw [hy114];with_reducible exact H) | (have H2_ := (Option.bind_some _ _).symm.trans H;rw [hy114];with_reducible exact H2_) | (have H2_ := (Option.bind_some _ _).symm.trans H;with_reducible exact H2_) | with_reducible exact H | (rw [hy114];exact H) | exact H
      have Ny114 := am0 hy114;clear hy114;have H' := am0 H;clear H;obtain ⟨Ao6,co6,eo6⟩ := Kd.R_slice HO_0.out;subst eo6;have p4 : 0 ≤ (x4_1 : Int) := of_decide_eq_true (by first | (with_reducible assumption) | assumption);have q4 : (x4_1 : Int) < ((x0_1.length : Int) : Int) := of_decide_eq_true (by first | (with_reducible assumption) | assumption);obtain ⟨go4,co4,eo4,gb4,gl4,cl4,HG4⟩ := Kd.R_form HO_0.out (by omega)
      (first | cases eo4 | (injection eo4 with ea_ en_ ec_;(first | subst ea_ | (injection ea_ with ea_;subst ea_));subst ec_;clear en_))
      have GB4 := am0 gb4;have GG4 := am0 HG4;clear gb4 gl4 HG4;have HMgo4 := am0 (show (P0_ go4 ∨ w.heap.size ≤ go4) from (HO_0.out.1 _ rfl));obtain ⟨ce4,hcl4,hM4,hcc4,hfr4⟩ := Kd.R_elem HO_0.out z40 (x4_1 : Int) p4 q4;obtain rfl := k40_openM hM4;have hx4_0 : wr.cell? ⟨go4,(x4_1 : Int).toNat * 6,none⟩ = some (.string ((rd_T40 x0_1 x4_1).f0)) := hcc4 0 _ rfl;have hx4_1 : wr.cell? ⟨go4,(x4_1 : Int).toNat * 6 + 1,none⟩ = some (.int .u8 ((rd_T40 x0_1 x4_1).f1)) := hcc4 1 _ rfl;have hx4_2 : wr.cell? ⟨go4,(x4_1 : Int).toNat * 6 + 2,none⟩ = some (.bool ((rd_T40 x0_1 x4_1).f2)) := hcc4 2 _ rfl;have hx4_3 : wr.cell? ⟨go4,(x4_1 : Int).toNat * 6 + 3,none⟩ = some (.int .i64 ((rd_T40 x0_1 x4_1).f3)) := hcc4 3 _ rfl;have hx4_4 : wr.cell? ⟨go4,(x4_1 : Int).toNat * 6 + 4,none⟩ = some (.int .i64 ((rd_T40 x0_1 x4_1).f4)) := hcc4 4 _ rfl;have hx4_5 : wr.cell? ⟨go4,(x4_1 : Int).toNat * 6 + 5,none⟩ = some (.int .i64 ((rd_T40 x0_1 x4_1).f5)) := hcc4 5 _ rfl;have hf4_0 : wr.frozen? ⟨go4,(x4_1 : Int).toNat * 6,none⟩ = false := hfr4 0;have hf4_1 : wr.frozen? ⟨go4,(x4_1 : Int).toNat * 6 + 1,none⟩ = false := hfr4 1;have hf4_2 : wr.frozen? ⟨go4,(x4_1 : Int).toNat * 6 + 2,none⟩ = false := hfr4 2;have hf4_3 : wr.frozen? ⟨go4,(x4_1 : Int).toNat * 6 + 3,none⟩ = false := hfr4 3;have hf4_4 : wr.frozen? ⟨go4,(x4_1 : Int).toNat * 6 + 4,none⟩ = false := hfr4 4;have hf4_5 : wr.frozen? ⟨go4,(x4_1 : Int).toNat * 6 + 5,none⟩ = false := hfr4 5;clear hcl4 hcc4 hfr4 hM4;replace p4 := eq_true p4;replace q4 := eq_true q4;have HX7 := am0 (show Kd.R k40 40 wr w0.heap.size (fun k_ => (P0_ k_ ∨ w.heap.size ≤ k_)) (.slice (some ⟨go4,0,none⟩) x0_1.length co6) x0_1 from (by (with_reducible repeat (first | apply Kd.R_alloc | apply Kd.R_drewN | apply Kd.R_drew));exact HO_0.out));obtain ⟨ce7,hcl7,hM7,hcc7,hfr7⟩ := Kd.R_elem HX7.out z40 (x4_1 : Int) (of_decide_eq_true (by first | (with_reducible assumption) | assumption)) (by have h_ : (x4_1 : Int) < ((x0_1.length : Int) : Int) := of_decide_eq_true (by first | (with_reducible assumption) | assumption);first | exact h_ | (have e_ := (Kd.R_reads' HO_0.out).1;omega) | simpa using h_);obtain rfl := k40_openM hM7;have HP7 := Kd.R_seg HX7.out (x4_1 : Int) (of_decide_eq_true (by first | (with_reducible assumption) | assumption)) (by have h_ : (x4_1 : Int) < ((x0_1.length : Int) : Int) := of_decide_eq_true (by first | (with_reducible assumption) | assumption);first | exact h_ | (have e_ := (Kd.R_reads' HO_0.out).1;omega) | simpa using h_) (seg := [.string (⟨#[102]⟩ : ByteArray)]) (j := 0) hcl7 hcc7 (show 1 ≤ 6 from by decide) (x' := (⟨(⟨#[102]⟩ : ByteArray),(rd_T40 x0_1 x4_1).f1,(rd_T40 x0_1 x4_1).f2,(rd_T40 x0_1 x4_1).f3,(rd_T40 x0_1 x4_1).f4,(rd_T40 x0_1 x4_1).f5⟩ : S40)) (k40_mkM _ _ _ (⟨(⟨#[102]⟩ : ByteArray),(rd_T40 x0_1 x4_1).f1,(rd_T40 x0_1 x4_1).f2,(rd_T40 x0_1 x4_1).f3,(rd_T40 x0_1 x4_1).f4,(rd_T40 x0_1 x4_1).f5⟩ : S40) ) (fun _ hk => hk);have hx7_0 := hcc7 0 _ rfl
      (try simp only [show (k40).sz = 6 from rfl,Nat.mul_one,Nat.add_zero] at hx7_0)
      have hf7_0 := hfr7 0
      (try simp only [show (k40).sz = 6 from rfl,Nat.mul_one,Nat.add_zero] at hf7_0)
      clear hcl7 hcc7 hfr7 hM7;go_wp2_with (first | ((with_reducible refine gate_store (t := 9) (p := 14) rfl ?_);refine store_event (t := 9) (p := 14) (v := ?vo_w8) (w1 := (wr.setCell ⟨go4,(x4_1 : Int).toNat * 6,none⟩ (.string (⟨#[102]⟩ : ByteArray)))) ?hg ?ho ?hn ?hr ?_;(case ho => rfl);(case hg => rfl);(case hn => rfl);(case hr => first | (go_simp;done) | (go_simp;rfl));intro w8 hw;have hg : wr.grownBy w8 (some go4) := (by rw [hw];exact HP7.2);have hp_ : Kd.R k40 40 w8 w0.heap.size (fun k_ => (P0_ k_ ∨ w.heap.size ≤ k_)) (.slice (some ⟨go4,0,none⟩) x0_1.length co6) y109 := (by rw [hw,Ny109.out];exact HP7.1);clear HP7;have n0_ := am0 (hp_);have n1_ := am0 (Kd.N_afterv (v := (.slice (some ⟨go4,0,none⟩) x0_1.length co6)) (v1 := (.slice (some ⟨go4,0,none⟩) x0_1.length co6)) (ok := (fun k_ => (P0_ k_ ∨ w.heap.size ≤ k_))) (by (with_reducible repeat (first | apply Kd.N_alloc | apply Kd.N_drewN | apply Kd.N_drew));exact HO_3.out) hg (.inl rfl));have n2_ := am0 ((by rw [hw];exact below_set (HB.out) GB4.out : Below w0.heap.size w0 w8));have n3_ := am0 (Kept.of_grown (S := (fun k_ => P0_ k_)) hg (by repeat (first | (with_reducible first | exact HK.out | apply Kept.alloc | apply Kept.drewN | apply Kept.drew) | exact HK.out)) (fun k_ e_ => (HO_0.out.1 k_ e_)));clear HO_0;clear HO_3;clear HB;clear HK;have HO_0 := n0_;have HO_3 := n1_;have HB := n2_;have HK := n3_;clear n0_ n1_ n2_ n3_;clear hg hw hp_;have p110 : 0 ≤ (x4_1 : Int) := of_decide_eq_true (by first | (with_reducible assumption) | assumption);have q110 : x4_1 < (y109.length : Int) := (by have h_ : (x4_1 : Int) < ((x0_1.length : Int) : Int) := of_decide_eq_true (by first | (with_reducible assumption) | assumption);first | (have e_ := (Kd.R_reads' HO_0.out).1;omega) | simpa only [Ny109.out,List.length_set] using h_);have ql110 : ((x4_1 : Int) < ((x0_1.length : Int) : Int)) = True := eq_true (of_decide_eq_true (by first | (with_reducible assumption) | assumption));obtain ⟨ad110,e110,hx110_0,hx110_1,hx110_2,hx110_3,hx110_4,hx110_5⟩ := at_T40 (Kd.R_reads' HO_0.out).2.2 x4_1 p110 q110;obtain rfl : (⟨go4,0,none⟩ : Addr) = ad110 := (by injection e110);(first | simp only [add_plain] at hx110_0 | simp only [add_at] at hx110_0 | simp only [Addr.add,Nat.zero_add] at hx110_0 | skip);(first | simp only [add_plain] at hx110_1 | simp only [add_at] at hx110_1 | simp only [Addr.add,Nat.zero_add] at hx110_1 | skip);(first | simp only [add_plain] at hx110_2 | simp only [add_at] at hx110_2 | simp only [Addr.add,Nat.zero_add] at hx110_2 | skip);(first | simp only [add_plain] at hx110_3 | simp only [add_at] at hx110_3 | simp only [Addr.add,Nat.zero_add] at hx110_3 | skip);(first | simp only [add_plain] at hx110_4 | simp only [add_at] at hx110_4 | simp only [Addr.add,Nat.zero_add] at hx110_4 | skip);(first | simp only [add_plain] at hx110_5 | simp only [add_at] at hx110_5 | simp only [Addr.add,Nat.zero_add] at hx110_5 | skip);replace p110 := eq_true p110;replace q110 := eq_true q110) | ((with_reducible refine gate_dst (N := 21) rfl ?_);refine Kd.R_lit k40 _ 40 ?hg (N := 21) ?hd (xs := ([(⟨(rd_T40 y109 x4_1).f0,(rd_T40 y109 x4_1).f1,(rd_T40 y109 x4_1).f2,(rd_T40 y109 x4_1).f3,(rd_T40 y109 x4_1).f4,(rd_T40 y109 x4_1).f5⟩ : S40)] : List (S40))) (inner := [.string ((rd_T40 y109 x4_1).f0), .int .u8 ((rd_T40 y109 x4_1).f1), .bool ((rd_T40 y109 x4_1).f2), .int .i64 ((rd_T40 y109 x4_1).f3), .int .i64 ((rd_T40 y109 x4_1).f4), .int .i64 ((rd_T40 y109 x4_1).f5)]) (ok := fun _ => True) (okp := fun _ => True) ?hr ?hp (fun _ hk => hk) trivial (Below.refl _ _) (Nat.le_refl _) (by simp) ?_;(case hd => rfl);(case hg => rfl);(case hr => first | (go_simp;done) | (go_simp;rfl));(case hp => exact (Reps.c6 (show Kd.M k40 _ _ _ (⟨(rd_T40 y109 x4_1).f0,(rd_T40 y109 x4_1).f1,(rd_T40 y109 x4_1).f2,(rd_T40 y109 x4_1).f3,(rd_T40 y109 x4_1).f4,(rd_T40 y109 x4_1).f5⟩ : S40) [.string ((rd_T40 y109 x4_1).f0), .int .u8 ((rd_T40 y109 x4_1).f1), .bool ((rd_T40 y109 x4_1).f2), .int .i64 ((rd_T40 y109 x4_1).f3), .int .i64 ((rd_T40 y109 x4_1).f4), .int .i64 ((rd_T40 y109 x4_1).f5)] from (k40_mkM _ _ _ (⟨(rd_T40 y109 x4_1).f0,(rd_T40 y109 x4_1).f1,(rd_T40 y109 x4_1).f2,(rd_T40 y109 x4_1).f3,(rd_T40 y109 x4_1).f4,(rd_T40 y109 x4_1).f5⟩ : S40) )) (Reps.none _ _)));intro v112 w9 ho10 hb hg_ hnew_;clear hg_ hnew_;(first | rw [← Ny111.out] at ho10 | (simp only [Int.reduceToNat] at ho10;rw [← Ny111.out] at ho10));have n0_ := am0 (Kd.R_elder' (by (with_reducible repeat (first | apply Kd.R_alloc | apply Kd.R_drewN | apply Kd.R_drew));exact HO_0.out) (Kd.R_base ho10) hb);have n1_ := am0 (Kd.N_elder' (by (with_reducible repeat (first | apply Kd.N_alloc | apply Kd.N_drewN | apply Kd.N_drew));exact HO_3.out) (Kd.R_base ho10) hb);have n2_ := am0 (Kd.R_lower (Kd.R_new' (Kd.R_newM (M := fun k_ => (P0_ k_ ∨ w.heap.size ≤ k_)) ho10 (by first | exact HK.out.1 | exact (show Kept w _ (fun k_ => P0_ k_) from by repeat (first | (with_reducible first | exact HK.out | apply Kept.alloc | apply Kept.drewN | apply Kept.drew) | exact HK.out)).1) (fun k_ h_ => .inr h_)) (Kd.R_lt (by (with_reducible repeat (first | apply Kd.R_alloc | apply Kd.R_drewN | apply Kd.R_drew));exact HO_0.out))) (below_size (by repeat (first | (with_reducible first | exact HB.out | apply below_alloc | apply pw_below_drewN | apply below_drew1) | exact HB.out))));have n3_ := am0 (Kept.below (S := (fun k_ => P0_ k_)) (by repeat (first | (with_reducible first | exact HK.out | apply Kept.alloc | apply Kept.drewN | apply Kept.drew) | exact HK.out)) hb);have n4_ := am0 (below_step (by repeat (first | (with_reducible first | exact HB.out | apply below_alloc | apply pw_below_drewN | apply below_drew1) | exact HB.out)) hb);clear HO_0;clear HO_3;clear HK;clear HB;have HO_0 := n0_;have HO_3 := n1_;have HO113 := n2_;have HK := n3_;have HB := n4_;clear n0_ n1_ n2_ n3_ n4_;clear hb ho10;obtain ⟨Ao11,co11,eo11⟩ := Kd.R_slice HO113.out;subst eo11) | ((with_reducible refine gate_builtin (b := .append) (xs := #[(.tmp 15),(.tmp 24)]) rfl ?_);at_builtin;refine Kd.N_append k38 w.heap.size rfl (.tmp 15) (.tmp 24) 22 38 (.agg #[(.int .i64 0),(.int .i64 0),(.slice none 0 0),(.slice none 0 0),(.slice none 0 0),(.slice none 0 0),(.slice none 0 0)]) 136 rfl Tryd.underlying22 info38 rfl (by decide) (by omega) u3 x3_1 (⟨x4_1,(-1),(⟨([] : List (S72)),y111,([] : List (S94)),([] : List (S68))⟩ : S35),([] : List Bool)⟩ : S38) [.int .i64 x4_1, .int .i64 (-1), .slice none 0 0, .slice Ao11 y111.length co11, .slice none 0 0, .slice none 0 0, .slice none 0 0] (fun k_ => (P0_ k_ ∨ w.heap.size ≤ k_) ∧ some k_ ≠ (.slice (some ⟨go4,0,none⟩) x0_1.length co6 : Value).ownBlock) (fun k_ => ((fun k_ => (P0_ k_ ∨ w.heap.size ≤ k_) ∧ some k_ ≠ (.slice (some ⟨go4,0,none⟩) x0_1.length co6 : Value).ownBlock)) k_ ∧ some k_ ≠ (u3 : Value).ownBlock) rfl rfl ?aP (fun _ hk => hk) ?aF ?aO (Below.refl _ _) ?aS ?aL ?_;(case aP => exact (k38_mkF _ _ (⟨x4_1,(-1),(⟨([] : List (S72)),y111,([] : List (S94)),([] : List (S68))⟩ : S35),([] : List Bool)⟩ : S38) (Nat.le_refl _) (Kd.F_nil _ _ _) (Kd.R_reads' (Kd.R_mono (ok' := (fun k_ => ((fun k_ => (P0_ k_ ∨ w.heap.size ≤ k_) ∧ some k_ ≠ (.slice (some ⟨go4,0,none⟩) x0_1.length co6 : Value).ownBlock)) k_ ∧ some k_ ≠ (u3 : Value).ownBlock)) (Kd.R_apart' (HO113.out) (Kd.N_typed HO_3.out) (by decide)) (fun k_ hk => ⟨⟨hk.1.1.1,hk.1.2⟩,hk.2⟩))).2.1 (Kd.R_F (Kd.R_mono (ok' := (fun k_ => ((fun k_ => (P0_ k_ ∨ w.heap.size ≤ k_) ∧ some k_ ≠ (.slice (some ⟨go4,0,none⟩) x0_1.length co6 : Value).ownBlock)) k_ ∧ some k_ ≠ (u3 : Value).ownBlock)) (Kd.R_apart' (HO113.out) (Kd.N_typed HO_3.out) (by decide)) (fun k_ hk => ⟨⟨hk.1.1.1,hk.1.2⟩,hk.2⟩))) (Nat.le_refl _) (Kd.F_nil _ _ _) (Nat.le_refl _) (Kd.F_nil _ _ _) (Nat.le_refl _) (Kd.F_nil _ _ _)));(case aF => exact (fun k_ hk => ⟨(.inr (Nat.le_trans (by first | exact HK.out.1 | exact (show Kept w _ (fun k_ => P0_ k_) from by repeat (first | (with_reducible first | exact HK.out | apply Kept.alloc | apply Kept.drewN | apply Kept.drew) | exact HK.out)).1) hk)),Kd.fresh' (Kd.R_lt (by (with_reducible repeat (first | apply Kd.R_alloc | apply Kd.R_drewN | apply Kd.R_drew));exact HO_0.out)) k_ hk⟩));(case aO => exact (by (with_reducible repeat (first | apply Kd.N_alloc | apply Kd.N_drewN | apply Kd.N_drew));exact Kd.N_mono HO_3.out (fun _ hk => ⟨hk.1.1,hk.1.2⟩)));(case aS => exact (by first | exact HK.out.1 | exact (show Kept w _ (fun k_ => P0_ k_) from by repeat (first | (with_reducible first | exact HK.out | apply Kept.alloc | apply Kept.drewN | apply Kept.drew) | exact HK.out)).1));(case aL => have := LMc5.out;omega);intro v115 w12 ho hb hg hat;rw [← Ny114.out] at ho;have n0_ := am0 (Kd.R_over' (by (with_reducible repeat (first | apply Kd.R_alloc | apply Kd.R_drewN | apply Kd.R_drew));exact HO_0.out) (Kd.N_typed (by (with_reducible repeat (first | apply Kd.N_alloc | apply Kd.N_drewN | apply Kd.N_drew));exact HO_3.out)) (by decide) hg);have n1_ := am0 (below_weaken (by repeat (first | (with_reducible first | exact HB.out | apply below_alloc | apply pw_below_drewN | apply below_drew1) | exact HB.out)) HW0.out hb);have n2_ := am0 (Kept.of_grown (S := (fun k_ => P0_ k_)) hg (by repeat (first | (with_reducible first | exact HK.out | apply Kept.alloc | apply Kept.drewN | apply Kept.drew) | exact HK.out)) (fun k_ e_ => .inr (Kd.N_base HO_3.out k_ e_)));have n3_ := am0 (ho);clear HO_0;clear HB;clear HK;clear HO_3;clear HO113;have HO_0 := n0_;have HB := n1_;have HK := n2_;have HO116 := n3_;clear n0_ n1_ n2_ n3_;clear ho hb hg hat))
      go_roundg k1
      case measure => have := HK1.out;omega
      case rel => exact ⟨(y109),(y114),(wrap64 (x4_1 + 1)),(by first | rfl | (simp;done) | (simp [*];done)),H',⟨by have := HK1.out;omega⟩,⟨by (with_reducible repeat (first | apply Kd.R_alloc | apply Kd.R_drewN | apply Kd.R_drew));exact Kd.R_mono HO_0.out (fun _ hk => hk.1)⟩,⟨by (with_reducible repeat (first | apply Kd.N_alloc | apply Kd.N_drewN | apply Kd.N_drew));exact HO116.out⟩,⟨by repeat (first | (with_reducible first | exact HK.out | apply Kept.alloc | apply Kept.drewN | apply Kept.drew) | exact HK.out)⟩,⟨by repeat (first | (with_reducible first | exact HB.out | apply below_alloc | apply pw_below_drewN | apply below_drew1) | exact HB.out)⟩⟩
     rw [if_neg c5] at H;exact absurd H (by simp)
    rw [if_neg c3] at H;exact absurd H (by simp)
   rw [if_neg c2] at H;have c2b0 : decide (x4_1 < (x0_1.length : Int)) = false := decide_eq_false c2;clear c2;simp only [Option.some.injEq,Prod.mk.injEq] at H;obtain ⟨rfl,rfl⟩ := H;obtain ⟨Ao13,co13,eo13⟩ := Kd.R_slice HO_0.out;subst eo13;go_wp2
   go_ret
   exact ⟨_,by first | rfl | (simp [errW_none,errW_some] <;> rfl) | (simp [*,errW_none,errW_some] <;> rfl),by (with_reducible repeat (first | apply Kd.N_alloc | apply Kd.N_drewN | apply Kd.N_drew));exact HO_3.out,by (with_reducible repeat (first | apply Kd.R_alloc | apply Kd.R_drewN | apply Kd.R_drew));exact HO_0.out,by repeat (first | (with_reducible first | exact HB.out | apply below_alloc | apply pw_below_drewN | apply below_drew1) | exact HB.out),by repeat (first | (with_reducible first | exact HK.out | apply Kept.alloc | apply Kept.drewN | apply Kept.drew) | exact HK.out)⟩
def quoinlaw23_weak.f  : Option (ByteArray × Int × Bool × Int × Int × Int) := some ((⟨#[]⟩ : ByteArray),2,false,(-1),0,0)
set_option maxHeartbeats 8000000 in
set_option maxRecDepth 100000 in
theorem quoinlaw23_weak.calls  (r1 : ByteArray) (r2 : Int) (r3 : Bool) (r4 : Int) (r5 : Int) (r6 : Int) (w : World) (h : quoinlaw23_weak.f  = some (r1,r2,r3,r4,r5,r6)) :
  Calls Tryd.prog 15 #[] w fun e w' => e = .returned (.agg #[.string r1, .int .u8 r2, .bool r3, .int .i64 r4, .int .i64 r5, .int .i64 r6]) ∧ Below w.heap.size w w' := by
 have hu40 := Tryd.underlying40;have HB := am0 (Below.refl w.heap.size w);have H : (some ((⟨#[]⟩ : ByteArray),2,false,(-1),0,0)) = some (r1,r2,r3,r4,r5,r6) := h;clear h;simp only [Option.some.injEq,Prod.mk.injEq] at H;obtain ⟨rfl,rfl,rfl,rfl,rfl,rfl⟩ := H;go_enter Tryd.func15,Tryd.ntmps15
 go_wp2_with (first | ((with_reducible refine gate_dst (N := 0) rfl ?_);refine box_event ?hg (N := 0) ?hd (cs := #[.string (⟨#[]⟩ : ByteArray), .int .u8 0, .bool false, .int .i64 0, .int .i64 0, .int .i64 0]) (t := 40) ?hr ?_;(case hd => rfl);(case hg => rfl);(case hr => first | (go_simp;done) | (go_simp;rfl));intro gb117 hg w1 hbox hb;have n0_ := am0 (below_step (by repeat (first | (with_reducible first | exact HB.out | apply below_alloc | apply pw_below_drewN | apply below_drew1) | exact HB.out)) hb);have n1_ := am0 (hbox);have n2_ := am0 ((by rw [hg];exact (below_size (by repeat (first | (with_reducible first | exact HB.out | apply below_alloc | apply pw_below_drewN | apply below_drew1) | exact HB.out))) : w.heap.size ≤ gb117));have n3_ := am0 ((by rw [hg];exact (below_size (by repeat (first | (with_reducible first | exact HB.out | apply below_alloc | apply pw_below_drewN | apply below_drew1) | exact HB.out))) : w.heap.size ≤ gb117));clear HB;have HB := n0_;have BK117 := n1_;have GW117 := n2_;have GE117 := n3_;clear n0_ n1_ n2_ n3_;clear hb hbox hg;have hcz2_0 : w1.cell? ⟨gb117,0,none⟩ = some (.string (⟨#[]⟩ : ByteArray)) := (blk_cell BK117.out 0).trans rfl;have hcz2_1 : w1.cell? ⟨gb117,1,none⟩ = some (.int .u8 0) := (blk_cell BK117.out 1).trans rfl;have hcz2_2 : w1.cell? ⟨gb117,2,none⟩ = some (.bool false) := (blk_cell BK117.out 2).trans rfl;have hcz2_3 : w1.cell? ⟨gb117,3,none⟩ = some (.int .i64 0) := (blk_cell BK117.out 3).trans rfl;have hcz2_4 : w1.cell? ⟨gb117,4,none⟩ = some (.int .i64 0) := (blk_cell BK117.out 4).trans rfl;have hcz2_5 : w1.cell? ⟨gb117,5,none⟩ = some (.int .i64 0) := (blk_cell BK117.out 5).trans rfl;have hfz2_0 := blk_frozen BK117.out 0;have hfz2_1 := blk_frozen BK117.out 1;have hfz2_2 := blk_frozen BK117.out 2;have hfz2_3 := blk_frozen BK117.out 3;have hfz2_4 := blk_frozen BK117.out 4;have hfz2_5 := blk_frozen BK117.out 5))
 refine bodyPost_ret (results_cell_row rfl _ _ gb117 40 #[.string (⟨#[]⟩ : ByteArray), .int .u8 2, .bool false, .int .i64 (-1), .int .i64 0, .int .i64 0] (0,0) _ rfl (by (with_reducible repeat (first | refine blk_drewN ?_ _ | refine blk_drew ?_ | refine blk_alloc ?_ _));refine blk_put (cs := #[.string (⟨#[]⟩ : ByteArray), .int .u8 2, .bool false, .int .i64 (-1), .int .i64 0, .int .i64 0]) ?_ 5 _ rfl;(with_reducible repeat (first | refine blk_drewN ?_ _ | refine blk_drew ?_ | refine blk_alloc ?_ _));refine blk_put (cs := #[.string (⟨#[]⟩ : ByteArray), .int .u8 2, .bool false, .int .i64 (-1), .int .i64 0, .int .i64 0]) ?_ 4 _ rfl;(with_reducible repeat (first | refine blk_drewN ?_ _ | refine blk_drew ?_ | refine blk_alloc ?_ _));refine blk_put (cs := #[.string (⟨#[]⟩ : ByteArray), .int .u8 2, .bool false, .int .i64 0, .int .i64 0, .int .i64 0]) ?_ 3 _ rfl;(with_reducible repeat (first | refine blk_drewN ?_ _ | refine blk_drew ?_ | refine blk_alloc ?_ _));refine blk_put (cs := #[.string (⟨#[]⟩ : ByteArray), .int .u8 2, .bool false, .int .i64 0, .int .i64 0, .int .i64 0]) ?_ 2 _ rfl;(with_reducible repeat (first | refine blk_drewN ?_ _ | refine blk_drew ?_ | refine blk_alloc ?_ _));refine blk_put (cs := #[.string (⟨#[]⟩ : ByteArray), .int .u8 0, .bool false, .int .i64 0, .int .i64 0, .int .i64 0]) ?_ 1 _ rfl;(with_reducible repeat (first | refine blk_drewN ?_ _ | refine blk_drew ?_ | refine blk_alloc ?_ _));refine blk_put (cs := #[.string (⟨#[]⟩ : ByteArray), .int .u8 0, .bool false, .int .i64 0, .int .i64 0, .int .i64 0]) ?_ 0 _ rfl;(with_reducible repeat (first | refine blk_drewN ?_ _ | refine blk_drew ?_ | refine blk_alloc ?_ _));exact BK117.out) Tryd.underlying40 rfl (by kernel_rfl)) rfl ?_;exact ⟨by first | rfl | (simp [errW_none,errW_some] <;> rfl) | (simp [*,errW_none,errW_some] <;> rfl),by repeat (first | (with_reducible first | exact HB.out | apply below_alloc | apply pw_below_drewN | apply below_drew1 | refine below_set ?_ GE117.out) | exact HB.out)⟩
def quoinlaw23_strong.f  : Option (ByteArray × Int × Bool × Int × Int × Int) := some ((⟨#[]⟩ : ByteArray),1,false,(-1),0,0)
set_option maxHeartbeats 8000000 in
set_option maxRecDepth 100000 in
theorem quoinlaw23_strong.calls  (r1 : ByteArray) (r2 : Int) (r3 : Bool) (r4 : Int) (r5 : Int) (r6 : Int) (w : World) (h : quoinlaw23_strong.f  = some (r1,r2,r3,r4,r5,r6)) :
  Calls Tryd.prog 16 #[] w fun e w' => e = .returned (.agg #[.string r1, .int .u8 r2, .bool r3, .int .i64 r4, .int .i64 r5, .int .i64 r6]) ∧ Below w.heap.size w w' := by
 have hu40 := Tryd.underlying40;have HB := am0 (Below.refl w.heap.size w);have H : (some ((⟨#[]⟩ : ByteArray),1,false,(-1),0,0)) = some (r1,r2,r3,r4,r5,r6) := h;clear h;simp only [Option.some.injEq,Prod.mk.injEq] at H;obtain ⟨rfl,rfl,rfl,rfl,rfl,rfl⟩ := H;go_enter Tryd.func16,Tryd.ntmps16
 go_wp2_with (first | ((with_reducible refine gate_dst (N := 0) rfl ?_);refine box_event ?hg (N := 0) ?hd (cs := #[.string (⟨#[]⟩ : ByteArray), .int .u8 0, .bool false, .int .i64 0, .int .i64 0, .int .i64 0]) (t := 40) ?hr ?_;(case hd => rfl);(case hg => rfl);(case hr => first | (go_simp;done) | (go_simp;rfl));intro gb118 hg w1 hbox hb;have n0_ := am0 (below_step (by repeat (first | (with_reducible first | exact HB.out | apply below_alloc | apply pw_below_drewN | apply below_drew1) | exact HB.out)) hb);have n1_ := am0 (hbox);have n2_ := am0 ((by rw [hg];exact (below_size (by repeat (first | (with_reducible first | exact HB.out | apply below_alloc | apply pw_below_drewN | apply below_drew1) | exact HB.out))) : w.heap.size ≤ gb118));have n3_ := am0 ((by rw [hg];exact (below_size (by repeat (first | (with_reducible first | exact HB.out | apply below_alloc | apply pw_below_drewN | apply below_drew1) | exact HB.out))) : w.heap.size ≤ gb118));clear HB;have HB := n0_;have BK118 := n1_;have GW118 := n2_;have GE118 := n3_;clear n0_ n1_ n2_ n3_;clear hb hbox hg;have hcz2_0 : w1.cell? ⟨gb118,0,none⟩ = some (.string (⟨#[]⟩ : ByteArray)) := (blk_cell BK118.out 0).trans rfl;have hcz2_1 : w1.cell? ⟨gb118,1,none⟩ = some (.int .u8 0) := (blk_cell BK118.out 1).trans rfl;have hcz2_2 : w1.cell? ⟨gb118,2,none⟩ = some (.bool false) := (blk_cell BK118.out 2).trans rfl;have hcz2_3 : w1.cell? ⟨gb118,3,none⟩ = some (.int .i64 0) := (blk_cell BK118.out 3).trans rfl;have hcz2_4 : w1.cell? ⟨gb118,4,none⟩ = some (.int .i64 0) := (blk_cell BK118.out 4).trans rfl;have hcz2_5 : w1.cell? ⟨gb118,5,none⟩ = some (.int .i64 0) := (blk_cell BK118.out 5).trans rfl;have hfz2_0 := blk_frozen BK118.out 0;have hfz2_1 := blk_frozen BK118.out 1;have hfz2_2 := blk_frozen BK118.out 2;have hfz2_3 := blk_frozen BK118.out 3;have hfz2_4 := blk_frozen BK118.out 4;have hfz2_5 := blk_frozen BK118.out 5))
 refine bodyPost_ret (results_cell_row rfl _ _ gb118 40 #[.string (⟨#[]⟩ : ByteArray), .int .u8 1, .bool false, .int .i64 (-1), .int .i64 0, .int .i64 0] (0,0) _ rfl (by (with_reducible repeat (first | refine blk_drewN ?_ _ | refine blk_drew ?_ | refine blk_alloc ?_ _));refine blk_put (cs := #[.string (⟨#[]⟩ : ByteArray), .int .u8 1, .bool false, .int .i64 (-1), .int .i64 0, .int .i64 0]) ?_ 5 _ rfl;(with_reducible repeat (first | refine blk_drewN ?_ _ | refine blk_drew ?_ | refine blk_alloc ?_ _));refine blk_put (cs := #[.string (⟨#[]⟩ : ByteArray), .int .u8 1, .bool false, .int .i64 (-1), .int .i64 0, .int .i64 0]) ?_ 4 _ rfl;(with_reducible repeat (first | refine blk_drewN ?_ _ | refine blk_drew ?_ | refine blk_alloc ?_ _));refine blk_put (cs := #[.string (⟨#[]⟩ : ByteArray), .int .u8 1, .bool false, .int .i64 0, .int .i64 0, .int .i64 0]) ?_ 3 _ rfl;(with_reducible repeat (first | refine blk_drewN ?_ _ | refine blk_drew ?_ | refine blk_alloc ?_ _));refine blk_put (cs := #[.string (⟨#[]⟩ : ByteArray), .int .u8 1, .bool false, .int .i64 0, .int .i64 0, .int .i64 0]) ?_ 2 _ rfl;(with_reducible repeat (first | refine blk_drewN ?_ _ | refine blk_drew ?_ | refine blk_alloc ?_ _));refine blk_put (cs := #[.string (⟨#[]⟩ : ByteArray), .int .u8 0, .bool false, .int .i64 0, .int .i64 0, .int .i64 0]) ?_ 1 _ rfl;(with_reducible repeat (first | refine blk_drewN ?_ _ | refine blk_drew ?_ | refine blk_alloc ?_ _));refine blk_put (cs := #[.string (⟨#[]⟩ : ByteArray), .int .u8 0, .bool false, .int .i64 0, .int .i64 0, .int .i64 0]) ?_ 0 _ rfl;(with_reducible repeat (first | refine blk_drewN ?_ _ | refine blk_drew ?_ | refine blk_alloc ?_ _));exact BK118.out) Tryd.underlying40 rfl (by kernel_rfl)) rfl ?_;exact ⟨by first | rfl | (simp [errW_none,errW_some] <;> rfl) | (simp [*,errW_none,errW_some] <;> rfl),by repeat (first | (with_reducible first | exact HB.out | apply below_alloc | apply pw_below_drewN | apply below_drew1 | refine below_set ?_ GE118.out) | exact HB.out)⟩
def quoinlaw23_lack.f  : Option (ByteArray × Int × Bool × Int × Int × Int) := some ((⟨#[]⟩ : ByteArray),1,false,0,0,0)
set_option maxHeartbeats 8000000 in
set_option maxRecDepth 100000 in
theorem quoinlaw23_lack.calls  (r1 : ByteArray) (r2 : Int) (r3 : Bool) (r4 : Int) (r5 : Int) (r6 : Int) (w : World) (h : quoinlaw23_lack.f  = some (r1,r2,r3,r4,r5,r6)) :
  Calls Tryd.prog 17 #[] w fun e w' => e = .returned (.agg #[.string r1, .int .u8 r2, .bool r3, .int .i64 r4, .int .i64 r5, .int .i64 r6]) ∧ Below w.heap.size w w' := by
 have hu40 := Tryd.underlying40;have HB := am0 (Below.refl w.heap.size w);have H : (some ((⟨#[]⟩ : ByteArray),1,false,0,0,0)) = some (r1,r2,r3,r4,r5,r6) := h;clear h;simp only [Option.some.injEq,Prod.mk.injEq] at H;obtain ⟨rfl,rfl,rfl,rfl,rfl,rfl⟩ := H;go_enter Tryd.func17,Tryd.ntmps17
 go_wp2_with (first | ((with_reducible refine gate_dst (N := 0) rfl ?_);refine box_event ?hg (N := 0) ?hd (cs := #[.string (⟨#[]⟩ : ByteArray), .int .u8 0, .bool false, .int .i64 0, .int .i64 0, .int .i64 0]) (t := 40) ?hr ?_;(case hd => rfl);(case hg => rfl);(case hr => first | (go_simp;done) | (go_simp;rfl));intro gb119 hg w1 hbox hb;have n0_ := am0 (below_step (by repeat (first | (with_reducible first | exact HB.out | apply below_alloc | apply pw_below_drewN | apply below_drew1) | exact HB.out)) hb);have n1_ := am0 (hbox);have n2_ := am0 ((by rw [hg];exact (below_size (by repeat (first | (with_reducible first | exact HB.out | apply below_alloc | apply pw_below_drewN | apply below_drew1) | exact HB.out))) : w.heap.size ≤ gb119));have n3_ := am0 ((by rw [hg];exact (below_size (by repeat (first | (with_reducible first | exact HB.out | apply below_alloc | apply pw_below_drewN | apply below_drew1) | exact HB.out))) : w.heap.size ≤ gb119));clear HB;have HB := n0_;have BK119 := n1_;have GW119 := n2_;have GE119 := n3_;clear n0_ n1_ n2_ n3_;clear hb hbox hg;have hcz2_0 : w1.cell? ⟨gb119,0,none⟩ = some (.string (⟨#[]⟩ : ByteArray)) := (blk_cell BK119.out 0).trans rfl;have hcz2_1 : w1.cell? ⟨gb119,1,none⟩ = some (.int .u8 0) := (blk_cell BK119.out 1).trans rfl;have hcz2_2 : w1.cell? ⟨gb119,2,none⟩ = some (.bool false) := (blk_cell BK119.out 2).trans rfl;have hcz2_3 : w1.cell? ⟨gb119,3,none⟩ = some (.int .i64 0) := (blk_cell BK119.out 3).trans rfl;have hcz2_4 : w1.cell? ⟨gb119,4,none⟩ = some (.int .i64 0) := (blk_cell BK119.out 4).trans rfl;have hcz2_5 : w1.cell? ⟨gb119,5,none⟩ = some (.int .i64 0) := (blk_cell BK119.out 5).trans rfl;have hfz2_0 := blk_frozen BK119.out 0;have hfz2_1 := blk_frozen BK119.out 1;have hfz2_2 := blk_frozen BK119.out 2;have hfz2_3 := blk_frozen BK119.out 3;have hfz2_4 := blk_frozen BK119.out 4;have hfz2_5 := blk_frozen BK119.out 5))
 refine bodyPost_ret (results_cell_row rfl _ _ gb119 40 #[.string (⟨#[]⟩ : ByteArray), .int .u8 1, .bool false, .int .i64 0, .int .i64 0, .int .i64 0] (0,0) _ rfl (by (with_reducible repeat (first | refine blk_drewN ?_ _ | refine blk_drew ?_ | refine blk_alloc ?_ _));refine blk_put (cs := #[.string (⟨#[]⟩ : ByteArray), .int .u8 1, .bool false, .int .i64 0, .int .i64 0, .int .i64 0]) ?_ 5 _ rfl;(with_reducible repeat (first | refine blk_drewN ?_ _ | refine blk_drew ?_ | refine blk_alloc ?_ _));refine blk_put (cs := #[.string (⟨#[]⟩ : ByteArray), .int .u8 1, .bool false, .int .i64 0, .int .i64 0, .int .i64 0]) ?_ 4 _ rfl;(with_reducible repeat (first | refine blk_drewN ?_ _ | refine blk_drew ?_ | refine blk_alloc ?_ _));refine blk_put (cs := #[.string (⟨#[]⟩ : ByteArray), .int .u8 1, .bool false, .int .i64 0, .int .i64 0, .int .i64 0]) ?_ 3 _ rfl;(with_reducible repeat (first | refine blk_drewN ?_ _ | refine blk_drew ?_ | refine blk_alloc ?_ _));refine blk_put (cs := #[.string (⟨#[]⟩ : ByteArray), .int .u8 1, .bool false, .int .i64 0, .int .i64 0, .int .i64 0]) ?_ 2 _ rfl;(with_reducible repeat (first | refine blk_drewN ?_ _ | refine blk_drew ?_ | refine blk_alloc ?_ _));refine blk_put (cs := #[.string (⟨#[]⟩ : ByteArray), .int .u8 0, .bool false, .int .i64 0, .int .i64 0, .int .i64 0]) ?_ 1 _ rfl;(with_reducible repeat (first | refine blk_drewN ?_ _ | refine blk_drew ?_ | refine blk_alloc ?_ _));refine blk_put (cs := #[.string (⟨#[]⟩ : ByteArray), .int .u8 0, .bool false, .int .i64 0, .int .i64 0, .int .i64 0]) ?_ 0 _ rfl;(with_reducible repeat (first | refine blk_drewN ?_ _ | refine blk_drew ?_ | refine blk_alloc ?_ _));exact BK119.out) Tryd.underlying40 rfl (by kernel_rfl)) rfl ?_;exact ⟨by first | rfl | (simp [errW_none,errW_some] <;> rfl) | (simp [*,errW_none,errW_some] <;> rfl),by repeat (first | (with_reducible first | exact HB.out | apply below_alloc | apply pw_below_drewN | apply below_drew1 | refine below_set ?_ GE119.out) | exact HB.out)⟩
end Go.Proofs.YtalomolellcefaaDoor.Q
namespace Go.Proofs.YtalomolellcefaaDoor.Q
open Go.RowKit Go.Proofs.YtalomolellcefaaDoorW.PrintWords Go.Proofs.YtalomolellcefaaDoorW.PrintLast Go.Proofs.YtalomolellcefaaDoorW.PrintMore
attribute [local go_sem] max2_int min2_int max_two min_two
attribute [local go_sem high] eqA43
noncomputable def quoinlaw23_alive.f (k : Nat)  : Option (Bool) := (quoinlaw23_lack.f).bind fun bt120 => ((quoinlaw23_weak.f).bind fun bt126 => ((quoinlaw23_strong.f).bind fun bt132 => ((quoinlaw23_kept.f k (([(⟨bt120.1,bt120.2.1,bt120.2.2.1,bt120.2.2.2.1,bt120.2.2.2.2.1,bt120.2.2.2.2.2⟩ : S40),(⟨bt126.1,bt126.2.1,bt126.2.2.1,bt126.2.2.2.1,bt126.2.2.2.2.1,bt126.2.2.2.2.2⟩ : S40),(⟨bt132.1,bt132.2.1,bt132.2.2.1,bt132.2.2.2.1,bt132.2.2.2.2.1,bt132.2.2.2.2.2⟩ : S40)] : List (S40)))).bind fun bt141 => ((quoinlaw23_stands.f k bt141.1).bind fun bt145 => (if bt145.2.2 = true then (some (bt145.1 == 2 && (bt145.2.1 == 0))) else (some false))))))
theorem quoinlaw23_alive.mono : ∀ k,LeO (quoinlaw23_alive.f k ) (quoinlaw23_alive.f (k + 1) ) := by
 intro  k;unfold quoinlaw23_alive.f
 repeat' first
   | (with_reducible exact quoinlaw23_kept.mono _ _)
   | (with_reducible exact quoinlaw23_stands.mono _ _)
   | (with_reducible exact LeO.refl _)
   | (with_reducible exact LeO.none _)
   | (with_reducible refine LeO.ite ?_ ?_)
   | (with_reducible refine LeO.bind ?_ (fun _ => ?_))
   | exact quoinlaw23_kept.mono _ _
   | exact quoinlaw23_stands.mono _ _
   | exact LeO.none _
   | refine LeO.ite ?_ ?_
   | refine LeO.bind ?_ (fun _ => ?_)
set_option maxHeartbeats 8000000 in
set_option maxRecDepth 100000 in
theorem quoinlaw23_alive.calls (k : Nat)  (r : Bool) (w : World) (hG : GlobOK w) (h : quoinlaw23_alive.f k  = some r) :
  Calls Tryd.prog 8 #[] w fun e w' => e = .returned (.bool r) ∧ Below w.heap.size w w' := by
 have hu43 := Tryd.underlying43;have HB := am0 (Below.refl w.heap.size w);have H : ((quoinlaw23_lack.f).bind fun bt120 => ((quoinlaw23_weak.f).bind fun bt126 => ((quoinlaw23_strong.f).bind fun bt132 => ((quoinlaw23_kept.f k (([(⟨bt120.1,bt120.2.1,bt120.2.2.1,bt120.2.2.2.1,bt120.2.2.2.2.1,bt120.2.2.2.2.2⟩ : S40),(⟨bt126.1,bt126.2.1,bt126.2.2.1,bt126.2.2.2.1,bt126.2.2.2.2.1,bt126.2.2.2.2.2⟩ : S40),(⟨bt132.1,bt132.2.1,bt132.2.2.1,bt132.2.2.2.1,bt132.2.2.2.2.1,bt132.2.2.2.2.2⟩ : S40)] : List (S40)))).bind fun bt141 => ((quoinlaw23_stands.f k bt141.1).bind fun bt145 => (if bt145.2.2 = true then (some (bt145.1 == 2 && (bt145.2.1 == 0))) else (some false))))))) = some r := h;clear h;replace H := Option.bind_eq_some_iff.mp H;obtain ⟨⟨t120,t121,t122,t123,t124,t125⟩,A10,H⟩ := H;replace H : ((quoinlaw23_weak.f).bind fun bt126 => ((quoinlaw23_strong.f).bind fun bt132 => ((quoinlaw23_kept.f k (([(⟨t120,t121,t122,t123,t124,t125⟩ : S40),(⟨bt126.1,bt126.2.1,bt126.2.2.1,bt126.2.2.2.1,bt126.2.2.2.2.1,bt126.2.2.2.2.2⟩ : S40),(⟨bt132.1,bt132.2.1,bt132.2.2.1,bt132.2.2.2.1,bt132.2.2.2.2.1,bt132.2.2.2.2.2⟩ : S40)] : List (S40)))).bind fun bt141 => ((quoinlaw23_stands.f k bt141.1).bind fun bt145 => (if bt145.2.2 = true then (some (bt145.1 == 2 && (bt145.2.1 == 0))) else (some false)))))) = some r := H;have A1 := am0 A10;clear A10;replace H := Option.bind_eq_some_iff.mp H;obtain ⟨⟨t126,t127,t128,t129,t130,t131⟩,A20,H⟩ := H;replace H : ((quoinlaw23_strong.f).bind fun bt132 => ((quoinlaw23_kept.f k (([(⟨t120,t121,t122,t123,t124,t125⟩ : S40),(⟨t126,t127,t128,t129,t130,t131⟩ : S40),(⟨bt132.1,bt132.2.1,bt132.2.2.1,bt132.2.2.2.1,bt132.2.2.2.2.1,bt132.2.2.2.2.2⟩ : S40)] : List (S40)))).bind fun bt141 => ((quoinlaw23_stands.f k bt141.1).bind fun bt145 => (if bt145.2.2 = true then (some (bt145.1 == 2 && (bt145.2.1 == 0))) else (some false))))) = some r := H;have A2 := am0 A20;clear A20;replace H := Option.bind_eq_some_iff.mp H;obtain ⟨⟨t132,t133,t134,t135,t136,t137⟩,A30,H⟩ := H;replace H : ((quoinlaw23_kept.f k (([(⟨t120,t121,t122,t123,t124,t125⟩ : S40),(⟨t126,t127,t128,t129,t130,t131⟩ : S40),(⟨t132,t133,t134,t135,t136,t137⟩ : S40)] : List (S40)))).bind fun bt141 => ((quoinlaw23_stands.f k bt141.1).bind fun bt145 => (if bt145.2.2 = true then (some (bt145.1 == 2 && (bt145.2.1 == 0))) else (some false)))) = some r := H;have A3 := am0 A30;clear A30;obtain ⟨y138,hy138⟩ : ∃ y_ : List (S40),y_ = (([(⟨t120,t121,t122,t123,t124,t125⟩ : S40),(⟨t126,t127,t128,t129,t130,t131⟩ : S40),(⟨t132,t133,t134,t135,t136,t137⟩ : S40)] : List (S40))) := ⟨_,rfl⟩;replace H : ((quoinlaw23_kept.f k y138).bind fun bt141 => ((quoinlaw23_stands.f k bt141.1).bind fun bt145 => (if bt145.2.2 = true then (some (bt145.1 == 2 && (bt145.2.1 == 0))) else (some false)))) = some r := by first | (rw [hy138];with_reducible exact H) | (have H2_ := (Option.bind_some _ _).symm.trans H;rw [hy138];with_reducible exact H2_) | (have H2_ := (Option.bind_some _ _).symm.trans H;with_reducible exact H2_) | with_reducible exact H | (rw [hy138];exact H) | exact H
 have Ny138 := am0 hy138;clear hy138;replace H := Option.bind_eq_some_iff.mp H;obtain ⟨⟨t141,t144⟩,A40,H⟩ := H;replace H : ((quoinlaw23_stands.f k t141).bind fun bt145 => (if bt145.2.2 = true then (some (bt145.1 == 2 && (bt145.2.1 == 0))) else (some false))) = some r := H;have A4 := am0 A40;clear A40;replace H := Option.bind_eq_some_iff.mp H;obtain ⟨⟨t145,t146,t147⟩,A50,H⟩ := H;replace H : (if t147 = true then (some (t145 == 2 && (t146 == 0))) else (some false)) = some r := H;have A5 := am0 A50;clear A50
 by_cases c6 : t147 = true
 ·subst c6
  have H1 : (some (t145 == 2 && (t146 == 0))) = some r := by rw [if_pos rfl] at H;exact H
  clear H;have H := H1;clear H1;obtain rfl := Option.some.inj H;go_enter Tryd.func8,Tryd.ntmps8
  go_wp2_with (first | ((with_reducible refine gate_callee (f := 17) rfl ?_);refine goesL_ (some 4) rfl rfl Tryd.func17 (by kernel_rfl) rfl #[] rfl (by (try simp only [List.map_toArray,List.map_cons,List.map_nil]);first | done | rfl | (simp only [List.length_drop,List.length_take];rfl)) ?_;(with_reducible refine (quoinlaw23_lack.calls  t120 t121 t122 t123 t124 t125 _ A1.out).mono ?_);rintro e w7 ⟨rfl,hb⟩;refine ⟨_,rfl, ?_⟩;have n0_ := am0 (below_step (by repeat (first | (with_reducible first | exact HB.out | apply below_alloc | apply pw_below_drewN | apply below_drew1) | exact HB.out)) hb);clear HB;have HB := n0_;clear n0_;(try clear hb);(try clear hb2);(try clear hk);(try clear hi)) | ((with_reducible refine gate_callee (f := 15) rfl ?_);refine goesL_ (some 5) rfl rfl Tryd.func15 (by kernel_rfl) rfl #[] rfl (by (try simp only [List.map_toArray,List.map_cons,List.map_nil]);first | done | rfl | (simp only [List.length_drop,List.length_take];rfl)) ?_;(with_reducible refine (quoinlaw23_weak.calls  t126 t127 t128 t129 t130 t131 _ A2.out).mono ?_);rintro e w8 ⟨rfl,hb⟩;refine ⟨_,rfl, ?_⟩;have n0_ := am0 (below_step (by repeat (first | (with_reducible first | exact HB.out | apply below_alloc | apply pw_below_drewN | apply below_drew1) | exact HB.out)) hb);clear HB;have HB := n0_;clear n0_;(try clear hb);(try clear hb2);(try clear hk);(try clear hi)) | ((with_reducible refine gate_callee (f := 16) rfl ?_);refine goesL_ (some 6) rfl rfl Tryd.func16 (by kernel_rfl) rfl #[] rfl (by (try simp only [List.map_toArray,List.map_cons,List.map_nil]);first | done | rfl | (simp only [List.length_drop,List.length_take];rfl)) ?_;(with_reducible refine (quoinlaw23_strong.calls  t132 t133 t134 t135 t136 t137 _ A3.out).mono ?_);rintro e w9 ⟨rfl,hb⟩;refine ⟨_,rfl, ?_⟩;have n0_ := am0 (below_step (by repeat (first | (with_reducible first | exact HB.out | apply below_alloc | apply pw_below_drewN | apply below_drew1) | exact HB.out)) hb);clear HB;have HB := n0_;clear n0_;(try clear hb);(try clear hb2);(try clear hk);(try clear hi)) | ((with_reducible refine gate_dst (N := 7) rfl ?_);refine Kd.R_lit k40 _ 40 ?hg (N := 7) ?hd (xs := ([(⟨t120,t121,t122,t123,t124,t125⟩ : S40),(⟨t126,t127,t128,t129,t130,t131⟩ : S40),(⟨t132,t133,t134,t135,t136,t137⟩ : S40)] : List (S40))) (inner := [.string t120, .int .u8 t121, .bool t122, .int .i64 t123, .int .i64 t124, .int .i64 t125, .string t126, .int .u8 t127, .bool t128, .int .i64 t129, .int .i64 t130, .int .i64 t131, .string t132, .int .u8 t133, .bool t134, .int .i64 t135, .int .i64 t136, .int .i64 t137]) (ok := fun _ => True) (okp := fun _ => True) ?hr ?hp (fun _ hk => hk) trivial (Below.refl _ _) (Nat.le_refl _) (by simp) ?_;(case hd => rfl);(case hg => rfl);(case hr => first | (go_simp;done) | (go_simp;rfl));(case hp => exact (Reps.c6 (show Kd.M k40 _ _ _ (⟨t120,t121,t122,t123,t124,t125⟩ : S40) [.string t120, .int .u8 t121, .bool t122, .int .i64 t123, .int .i64 t124, .int .i64 t125] from (k40_mkM _ _ _ (⟨t120,t121,t122,t123,t124,t125⟩ : S40) )) (Reps.c6 (show Kd.M k40 _ _ _ (⟨t126,t127,t128,t129,t130,t131⟩ : S40) [.string t126, .int .u8 t127, .bool t128, .int .i64 t129, .int .i64 t130, .int .i64 t131] from (k40_mkM _ _ _ (⟨t126,t127,t128,t129,t130,t131⟩ : S40) )) (Reps.c6 (show Kd.M k40 _ _ _ (⟨t132,t133,t134,t135,t136,t137⟩ : S40) [.string t132, .int .u8 t133, .bool t134, .int .i64 t135, .int .i64 t136, .int .i64 t137] from (k40_mkM _ _ _ (⟨t132,t133,t134,t135,t136,t137⟩ : S40) )) (Reps.none _ _)))));intro v139 w10 ho11 hb hg_ hnew_;clear hg_ hnew_;(first | rw [← Ny138.out] at ho11 | (simp only [Int.reduceToNat] at ho11;rw [← Ny138.out] at ho11));have n0_ := am0 (Kd.R_lower ho11 (below_size (by repeat (first | (with_reducible first | exact HB.out | apply below_alloc | apply pw_below_drewN | apply below_drew1) | exact HB.out))));have n1_ := am0 (below_step (by repeat (first | (with_reducible first | exact HB.out | apply below_alloc | apply pw_below_drewN | apply below_drew1) | exact HB.out)) hb);clear HB;have HO140 := n0_;have HB := n1_;clear n0_ n1_;clear hb ho11;obtain ⟨Ao12,co12,eo12⟩ := Kd.R_slice HO140.out;subst eo12) | ((with_reducible refine gate_callee (f := 13) rfl ?_);refine goesL_ (some 8) rfl rfl Tryd.func13 (by kernel_rfl) rfl #[.slice Ao12 y138.length co12] rfl (by (try simp only [List.map_toArray,List.map_cons,List.map_nil]);first | done | rfl | (simp only [List.length_drop,List.length_take];rfl)) ?_;(with_reducible refine (quoinlaw23_kept.calls k (fun k_ => some k_ = (.slice Ao12 y138.length co12 : Value).ownBlock) (.slice Ao12 y138.length co12) y138 t141 t144 w _ ?side1 ?side2 A4.out).mono ?_);(case side1 => repeat (first | (with_reducible first | exact HB.out | apply below_alloc | apply pw_below_drewN | apply below_drew1) | exact HB.out));(case side2 => exact Kd.R_tight rfl HO140.out);rintro e w13 ⟨v142,rfl,ho0,hy0,hb,hkp⟩;refine ⟨_,rfl, ?_⟩;have n0_ := am0 (Kd.R_reok rfl hy0 (fun k_ e_ => HO140.out.1 k_ e_));have n1_ := am0 (Kd.N_lower (Kd.N_mono (ok' := fun k_ => some k_ ≠ (.slice Ao12 y138.length co12 : Value).ownBlock) ho0 (fun k_ hk_ => hk_.2)) (below_size (by repeat (first | (with_reducible first | exact HB.out | apply below_alloc | apply pw_below_drewN | apply below_drew1) | exact HB.out))));have n2_ := am0 (hb);clear HO140;clear HB;have HO140 := n0_;have HO143 := n1_;have HB := n2_;clear n0_ n1_ n2_;(try clear hb);(try clear hkp);(try clear ho0);(try clear hy0);obtain ⟨Ao14,co14,eo14⟩ := Kd.N_slice HO143.out;subst eo14) | ((with_reducible refine gate_callee (f := 12) rfl ?_);refine goesL_ (some 9) rfl rfl Tryd.func12 (by kernel_rfl) rfl #[.slice Ao14 t141.length co14] rfl (by (try simp only [List.map_toArray,List.map_cons,List.map_nil]);first | done | rfl | (simp only [List.length_drop,List.length_take];rfl)) ?_;(with_reducible refine (quoinlaw23_stands.calls k _ _ t141 t145 t146 true _ ?side3 ?side1 ?side2 A5.out).mono ?_);(case side1 => repeat (first | exact (Kd.N_reads' HO143.out).2.2 | (with_reducible refine Kd.C_alloc ?_ _) | (with_reducible refine Kd.C_drewN ?_ _) | (with_reducible refine Kd.C_drew ?_)));(case side2 => exact (Kd.N_reads' HO143.out).2.1);(case side3 => exact GlobOK.below hG (by repeat (first | (with_reducible first | exact HB.out | apply below_alloc | apply pw_below_drewN | apply below_drew1) | exact HB.out)));rintro e w15 ⟨rfl,hb⟩;refine ⟨_,rfl, ?_⟩;have n0_ := am0 (Kd.R_below (by (with_reducible repeat (first | apply Kd.R_alloc | apply Kd.R_drewN | apply Kd.R_drew));exact HO140.out) hb);have n1_ := am0 (Kd.N_below (by (with_reducible repeat (first | apply Kd.N_alloc | apply Kd.N_drewN | apply Kd.N_drew));exact HO143.out) hb);have n2_ := am0 (below_step (by repeat (first | (with_reducible first | exact HB.out | apply below_alloc | apply pw_below_drewN | apply below_drew1) | exact HB.out)) hb);clear HO140;clear HO143;clear HB;have HO140 := n0_;have HO143 := n1_;have HB := n2_;clear n0_ n1_ n2_;(try clear hb);(try clear hb2);(try clear hk);(try clear hi)) | ((with_reducible refine gate_dst (N := 1) rfl ?_);refine box_event ?hg (N := 1) ?hd (cs := #[.int .i64 0, .int .i64 0]) (t := 43) ?hr ?_;(case hd => rfl);(case hg => rfl);(case hr => first | (go_simp;done) | (go_simp;rfl));intro gb148 hg w16 hbox hb;have n0_ := am0 (Kd.R_below (by (with_reducible repeat (first | apply Kd.R_alloc | apply Kd.R_drewN | apply Kd.R_drew));exact HO140.out) hb);have n1_ := am0 (Kd.N_below (Kd.N_elderB (by (with_reducible repeat (first | apply Kd.N_alloc | apply Kd.N_drewN | apply Kd.N_drew));exact HO143.out) gb148 (Nat.le_of_eq hg.symm)) hb);have n2_ := am0 (below_step (by repeat (first | (with_reducible first | exact HB.out | apply below_alloc | apply pw_below_drewN | apply below_drew1) | exact HB.out)) hb);have n3_ := am0 (hbox);have n4_ := am0 ((by rw [hg];exact (below_size (by repeat (first | (with_reducible first | exact HB.out | apply below_alloc | apply pw_below_drewN | apply below_drew1) | exact HB.out))) : w.heap.size ≤ gb148));have n5_ := am0 ((by rw [hg];exact (below_size (by repeat (first | (with_reducible first | exact HB.out | apply below_alloc | apply pw_below_drewN | apply below_drew1) | exact HB.out))) : w.heap.size ≤ gb148));clear HO140;clear HO143;clear HB;have HO140 := n0_;have HO143 := n1_;have HB := n2_;have BK148 := n3_;have GW148 := n4_;have GE148 := n5_;clear n0_ n1_ n2_ n3_ n4_ n5_;clear hb hbox hg;have hcz17_0 : w16.cell? ⟨gb148,0,none⟩ = some (.int .i64 0) := (blk_cell BK148.out 0).trans rfl;have hcz17_1 : w16.cell? ⟨gb148,1,none⟩ = some (.int .i64 0) := (blk_cell BK148.out 1).trans rfl;have hfz17_0 := blk_frozen BK148.out 0;have hfz17_1 := blk_frozen BK148.out 1))
  go_ret
  exact ⟨by first | rfl | (simp [errW_none,errW_some] <;> rfl) | (simp [*,errW_none,errW_some] <;> rfl),by repeat (first | (with_reducible first | exact HB.out | apply below_alloc | apply pw_below_drewN | apply below_drew1 | refine below_set ?_ GE148.out) | exact HB.out)⟩
 replace c6 := Bool.eq_false_iff.mpr c6;subst c6;have H1 : (some false) = some r := by rw [if_neg (show ¬ (false = true) by decide)] at H;exact H
 clear H;have H := H1;clear H1;obtain rfl := Option.some.inj H;go_enter Tryd.func8,Tryd.ntmps8
 go_wp2_with (first | ((with_reducible refine gate_callee (f := 17) rfl ?_);refine goesL_ (some 4) rfl rfl Tryd.func17 (by kernel_rfl) rfl #[] rfl (by (try simp only [List.map_toArray,List.map_cons,List.map_nil]);first | done | rfl | (simp only [List.length_drop,List.length_take];rfl)) ?_;(with_reducible refine (quoinlaw23_lack.calls  t120 t121 t122 t123 t124 t125 _ A1.out).mono ?_);rintro e w18 ⟨rfl,hb⟩;refine ⟨_,rfl, ?_⟩;have n0_ := am0 (below_step (by repeat (first | (with_reducible first | exact HB.out | apply below_alloc | apply pw_below_drewN | apply below_drew1) | exact HB.out)) hb);clear HB;have HB := n0_;clear n0_;(try clear hb);(try clear hb2);(try clear hk);(try clear hi)) | ((with_reducible refine gate_callee (f := 15) rfl ?_);refine goesL_ (some 5) rfl rfl Tryd.func15 (by kernel_rfl) rfl #[] rfl (by (try simp only [List.map_toArray,List.map_cons,List.map_nil]);first | done | rfl | (simp only [List.length_drop,List.length_take];rfl)) ?_;(with_reducible refine (quoinlaw23_weak.calls  t126 t127 t128 t129 t130 t131 _ A2.out).mono ?_);rintro e w19 ⟨rfl,hb⟩;refine ⟨_,rfl, ?_⟩;have n0_ := am0 (below_step (by repeat (first | (with_reducible first | exact HB.out | apply below_alloc | apply pw_below_drewN | apply below_drew1) | exact HB.out)) hb);clear HB;have HB := n0_;clear n0_;(try clear hb);(try clear hb2);(try clear hk);(try clear hi)) | ((with_reducible refine gate_callee (f := 16) rfl ?_);refine goesL_ (some 6) rfl rfl Tryd.func16 (by kernel_rfl) rfl #[] rfl (by (try simp only [List.map_toArray,List.map_cons,List.map_nil]);first | done | rfl | (simp only [List.length_drop,List.length_take];rfl)) ?_;(with_reducible refine (quoinlaw23_strong.calls  t132 t133 t134 t135 t136 t137 _ A3.out).mono ?_);rintro e w20 ⟨rfl,hb⟩;refine ⟨_,rfl, ?_⟩;have n0_ := am0 (below_step (by repeat (first | (with_reducible first | exact HB.out | apply below_alloc | apply pw_below_drewN | apply below_drew1) | exact HB.out)) hb);clear HB;have HB := n0_;clear n0_;(try clear hb);(try clear hb2);(try clear hk);(try clear hi)) | ((with_reducible refine gate_dst (N := 7) rfl ?_);refine Kd.R_lit k40 _ 40 ?hg (N := 7) ?hd (xs := ([(⟨t120,t121,t122,t123,t124,t125⟩ : S40),(⟨t126,t127,t128,t129,t130,t131⟩ : S40),(⟨t132,t133,t134,t135,t136,t137⟩ : S40)] : List (S40))) (inner := [.string t120, .int .u8 t121, .bool t122, .int .i64 t123, .int .i64 t124, .int .i64 t125, .string t126, .int .u8 t127, .bool t128, .int .i64 t129, .int .i64 t130, .int .i64 t131, .string t132, .int .u8 t133, .bool t134, .int .i64 t135, .int .i64 t136, .int .i64 t137]) (ok := fun _ => True) (okp := fun _ => True) ?hr ?hp (fun _ hk => hk) trivial (Below.refl _ _) (Nat.le_refl _) (by simp) ?_;(case hd => rfl);(case hg => rfl);(case hr => first | (go_simp;done) | (go_simp;rfl));(case hp => exact (Reps.c6 (show Kd.M k40 _ _ _ (⟨t120,t121,t122,t123,t124,t125⟩ : S40) [.string t120, .int .u8 t121, .bool t122, .int .i64 t123, .int .i64 t124, .int .i64 t125] from (k40_mkM _ _ _ (⟨t120,t121,t122,t123,t124,t125⟩ : S40) )) (Reps.c6 (show Kd.M k40 _ _ _ (⟨t126,t127,t128,t129,t130,t131⟩ : S40) [.string t126, .int .u8 t127, .bool t128, .int .i64 t129, .int .i64 t130, .int .i64 t131] from (k40_mkM _ _ _ (⟨t126,t127,t128,t129,t130,t131⟩ : S40) )) (Reps.c6 (show Kd.M k40 _ _ _ (⟨t132,t133,t134,t135,t136,t137⟩ : S40) [.string t132, .int .u8 t133, .bool t134, .int .i64 t135, .int .i64 t136, .int .i64 t137] from (k40_mkM _ _ _ (⟨t132,t133,t134,t135,t136,t137⟩ : S40) )) (Reps.none _ _)))));intro v139 w21 ho22 hb hg_ hnew_;clear hg_ hnew_;(first | rw [← Ny138.out] at ho22 | (simp only [Int.reduceToNat] at ho22;rw [← Ny138.out] at ho22));have n0_ := am0 (Kd.R_lower ho22 (below_size (by repeat (first | (with_reducible first | exact HB.out | apply below_alloc | apply pw_below_drewN | apply below_drew1) | exact HB.out))));have n1_ := am0 (below_step (by repeat (first | (with_reducible first | exact HB.out | apply below_alloc | apply pw_below_drewN | apply below_drew1) | exact HB.out)) hb);clear HB;have HO140 := n0_;have HB := n1_;clear n0_ n1_;clear hb ho22;obtain ⟨Ao23,co23,eo23⟩ := Kd.R_slice HO140.out;subst eo23) | ((with_reducible refine gate_callee (f := 13) rfl ?_);refine goesL_ (some 8) rfl rfl Tryd.func13 (by kernel_rfl) rfl #[.slice Ao23 y138.length co23] rfl (by (try simp only [List.map_toArray,List.map_cons,List.map_nil]);first | done | rfl | (simp only [List.length_drop,List.length_take];rfl)) ?_;(with_reducible refine (quoinlaw23_kept.calls k (fun k_ => some k_ = (.slice Ao23 y138.length co23 : Value).ownBlock) (.slice Ao23 y138.length co23) y138 t141 t144 w _ ?side1 ?side2 A4.out).mono ?_);(case side1 => repeat (first | (with_reducible first | exact HB.out | apply below_alloc | apply pw_below_drewN | apply below_drew1) | exact HB.out));(case side2 => exact Kd.R_tight rfl HO140.out);rintro e w24 ⟨v142,rfl,ho0,hy0,hb,hkp⟩;refine ⟨_,rfl, ?_⟩;have n0_ := am0 (Kd.R_reok rfl hy0 (fun k_ e_ => HO140.out.1 k_ e_));have n1_ := am0 (Kd.N_lower (Kd.N_mono (ok' := fun k_ => some k_ ≠ (.slice Ao23 y138.length co23 : Value).ownBlock) ho0 (fun k_ hk_ => hk_.2)) (below_size (by repeat (first | (with_reducible first | exact HB.out | apply below_alloc | apply pw_below_drewN | apply below_drew1) | exact HB.out))));have n2_ := am0 (hb);clear HO140;clear HB;have HO140 := n0_;have HO143 := n1_;have HB := n2_;clear n0_ n1_ n2_;(try clear hb);(try clear hkp);(try clear ho0);(try clear hy0);obtain ⟨Ao25,co25,eo25⟩ := Kd.N_slice HO143.out;subst eo25) | ((with_reducible refine gate_callee (f := 12) rfl ?_);refine goesL_ (some 9) rfl rfl Tryd.func12 (by kernel_rfl) rfl #[.slice Ao25 t141.length co25] rfl (by (try simp only [List.map_toArray,List.map_cons,List.map_nil]);first | done | rfl | (simp only [List.length_drop,List.length_take];rfl)) ?_;(with_reducible refine (quoinlaw23_stands.calls k _ _ t141 t145 t146 false _ ?side3 ?side1 ?side2 A5.out).mono ?_);(case side1 => repeat (first | exact (Kd.N_reads' HO143.out).2.2 | (with_reducible refine Kd.C_alloc ?_ _) | (with_reducible refine Kd.C_drewN ?_ _) | (with_reducible refine Kd.C_drew ?_)));(case side2 => exact (Kd.N_reads' HO143.out).2.1);(case side3 => exact GlobOK.below hG (by repeat (first | (with_reducible first | exact HB.out | apply below_alloc | apply pw_below_drewN | apply below_drew1) | exact HB.out)));rintro e w26 ⟨rfl,hb⟩;refine ⟨_,rfl, ?_⟩;have n0_ := am0 (Kd.R_below (by (with_reducible repeat (first | apply Kd.R_alloc | apply Kd.R_drewN | apply Kd.R_drew));exact HO140.out) hb);have n1_ := am0 (Kd.N_below (by (with_reducible repeat (first | apply Kd.N_alloc | apply Kd.N_drewN | apply Kd.N_drew));exact HO143.out) hb);have n2_ := am0 (below_step (by repeat (first | (with_reducible first | exact HB.out | apply below_alloc | apply pw_below_drewN | apply below_drew1) | exact HB.out)) hb);clear HO140;clear HO143;clear HB;have HO140 := n0_;have HO143 := n1_;have HB := n2_;clear n0_ n1_ n2_;(try clear hb);(try clear hb2);(try clear hk);(try clear hi)) | ((with_reducible refine gate_dst (N := 1) rfl ?_);refine box_event ?hg (N := 1) ?hd (cs := #[.int .i64 0, .int .i64 0]) (t := 43) ?hr ?_;(case hd => rfl);(case hg => rfl);(case hr => first | (go_simp;done) | (go_simp;rfl));intro gb148 hg w27 hbox hb;have n0_ := am0 (Kd.R_below (by (with_reducible repeat (first | apply Kd.R_alloc | apply Kd.R_drewN | apply Kd.R_drew));exact HO140.out) hb);have n1_ := am0 (Kd.N_below (Kd.N_elderB (by (with_reducible repeat (first | apply Kd.N_alloc | apply Kd.N_drewN | apply Kd.N_drew));exact HO143.out) gb148 (Nat.le_of_eq hg.symm)) hb);have n2_ := am0 (below_step (by repeat (first | (with_reducible first | exact HB.out | apply below_alloc | apply pw_below_drewN | apply below_drew1) | exact HB.out)) hb);have n3_ := am0 (hbox);have n4_ := am0 ((by rw [hg];exact (below_size (by repeat (first | (with_reducible first | exact HB.out | apply below_alloc | apply pw_below_drewN | apply below_drew1) | exact HB.out))) : w.heap.size ≤ gb148));have n5_ := am0 ((by rw [hg];exact (below_size (by repeat (first | (with_reducible first | exact HB.out | apply below_alloc | apply pw_below_drewN | apply below_drew1) | exact HB.out))) : w.heap.size ≤ gb148));clear HO140;clear HO143;clear HB;have HO140 := n0_;have HO143 := n1_;have HB := n2_;have BK148 := n3_;have GW148 := n4_;have GE148 := n5_;clear n0_ n1_ n2_ n3_ n4_ n5_;clear hb hbox hg;have hcz28_0 : w27.cell? ⟨gb148,0,none⟩ = some (.int .i64 0) := (blk_cell BK148.out 0).trans rfl;have hcz28_1 : w27.cell? ⟨gb148,1,none⟩ = some (.int .i64 0) := (blk_cell BK148.out 1).trans rfl;have hfz28_0 := blk_frozen BK148.out 0;have hfz28_1 := blk_frozen BK148.out 1))
 go_ret
 exact ⟨by first | rfl | (simp [errW_none,errW_some] <;> rfl) | (simp [*,errW_none,errW_some] <;> rfl),by repeat (first | (with_reducible first | exact HB.out | apply below_alloc | apply pw_below_drewN | apply below_drew1 | refine below_set ?_ GE148.out) | exact HB.out)⟩
end Go.Proofs.YtalomolellcefaaDoor.Q
namespace Go.Proofs.YtalomolellcefaaDoor.Q
open Go.RowKit Go.Proofs.YtalomolellcefaaDoorW.PrintWords Go.Proofs.YtalomolellcefaaDoorW.PrintLast Go.Proofs.YtalomolellcefaaDoorW.PrintMore Go.Proofs.YtalomolellcefaaDoor.Maps
section
variable {secs : List S72} {syms : List S40} {relas : List S94} {groups : List S68}
theorem elf_more {k : Nat} {v : Int} (h : elfw_Check.f k secs syms relas groups = some v) : ∀ n,elfw_Check.f (k + n) secs syms relas groups = some v
 | 0 => h
 | n + 1 => elfw_Check.mono secs syms relas groups (k + n) v (elf_more h n)
theorem elfV_eq (hO : ObjFit secs syms relas groups) {k : Nat} {v : Int} (h : elfw_Check.f k secs syms relas groups = some v) : elfV secs syms relas groups = v := by
 obtain ⟨⟨k',h'⟩,_⟩ := elf_val hO;have h1 := elf_more h k';have h2 := elf_more h' k;rw [Nat.add_comm] at h2;rw [h1] at h2;exact (Option.some.inj h2).symm
end
def oneSym (i : Int) (s : S40) : S38 := ⟨i, -1,⟨[],[s],[],[]⟩,[]⟩
abbrev nameF : ByteArray := ⟨#[102]⟩
theorem fit_one (i : Int) (s : S40) : KeptFit (oneSym i s) :=
 ⟨(by decide : (0 : Nat) < 1099511627776),fun s h => by simp [oneSym] at h,(by decide : (1 : Nat) < 1099511627776),fun r h => by simp [oneSym] at h,rfl⟩
theorem elf_lack : elfw_Check.f 60 [] [⟨nameF,1,false,0,0,0⟩] [] [] = some 0 := by rfl
theorem elf_weak : elfw_Check.f 60 [] [⟨nameF,2,false, -1,0,0⟩] [] [] = some 0 := by rfl
theorem elf_strong : elfw_Check.f 60 [] [⟨nameF,1,false, -1,0,0⟩] [] [] = some 0 := by rfl
theorem keptElf_one {i : Int} {s : S40} (h : elfw_Check.f 60 [] [s] [] [] = some 0) : keptElf (oneSym i s) = 0 := elfV_eq (fit_one i s) h
theorem check_one {i : Int} {s : S40} {l : List S38} {n : Nat} {f : ByteArray → Option Int} (h : elfw_Check.f 60 [] [s] [] [] = some 0) : checkGo (oneSym i s :: l) n f = checkGo l (n + 1) f := by
 rw [checkGo_ok (by rintro (h1 | h1);exact h1 (keptElf_one h);exact h1 rfl) rfl];rfl
def aliveL : List S38 := [oneSym 0 ⟨nameF,1,false,0,0,0⟩,oneSym 1 ⟨nameF,2,false, -1,0,0⟩,oneSym 2 ⟨nameF,1,false, -1,0,0⟩]
theorem alive_fit : ∀ k ∈ aliveL,KeptFit k := by
 intro k hk;simp only [aliveL,List.mem_cons,List.not_mem_nil,or_false] at hk;rcases hk with rfl | rfl | rfl <;> exact fit_one _ _
theorem alive_check : resCheckV aliveL = 0 := by
 unfold resCheckV aliveL;rw [if_neg (by decide),check_one elf_lack,check_one elf_weak,check_one elf_strong];rfl
theorem alive_read : readV aliveL = (upd (upd (fun _ => none) nameF ⟨1,0,0,1,0,0,true⟩) nameF ⟨2,0,0,2,0,1,true⟩,upd (fun _ => none) nameF 1) := by kernel_rfl
theorem alive_double : ¬ doubleV (readV aliveL) := by
 rintro ⟨s,d,h,hlt⟩
 rw [alive_read] at h
 by_cases hs : s = nameF
 ·simp only [upd,if_pos hs] at h
  have := Option.some.inj h;subst this;exact absurd hlt (by decide)
 simp only [upd,if_neg hs] at h;cases h
theorem alive_lacks : lacksV (readV aliveL) = [] := by
 refine lacksV_eq (r := []) ⟨List.Pairwise.nil,fun s => ⟨fun h => by simp at h,fun h => ?_⟩⟩;exfalso;rw [alive_read] at h;obtain ⟨h1,h2⟩ := h
 by_cases hs : s = nameF
 ·simp only [upd,if_pos hs] at h2
  cases h2
 simp only [upd,if_neg hs] at h1;cases h1
theorem alive_bind : resolve_Bind.f aliveL = some ([[⟨2,0⟩],[⟨2,0⟩],[⟨2,0⟩]],0) := by
 unfold resolve_Bind.f bindV;rw [if_pos alive_fit,if_pos alive_check,if_neg alive_double,if_pos alive_lacks,alive_read];rfl
theorem alive_kept : quoinlaw23_kept.f 60 [⟨⟨#[]⟩,1,false,0,0,0⟩,⟨⟨#[]⟩,2,false, -1,0,0⟩,⟨⟨#[]⟩,1,false, -1,0,0⟩] = some (aliveL,[⟨nameF,1,false,0,0,0⟩,⟨nameF,2,false, -1,0,0⟩,⟨nameF,1,false, -1,0,0⟩]) := by kernel_rfl
theorem alive_stands : quoinlaw23_stands.f 60 aliveL = some (2,0,true) := by
 unfold quoinlaw23_stands.f;rw [alive_bind];rfl
theorem alive_true : quoinlaw23_alive.f 60 = some true := by
 unfold quoinlaw23_alive.f;simp only [quoinlaw23_lack.f,quoinlaw23_weak.f,quoinlaw23_strong.f,Option.bind_some];have h := alive_kept;have h2 := alive_stands
 first
  | (rw [h];simp only [Option.bind_some];rw [h2];rfl)
  | (erw [h];simp only [Option.bind_some];rw [h2];rfl)
theorem elf_common : elfw_Check.f 60 [] [⟨nameF,1,false, -2,4,8⟩] [] [] = some 0 := by kernel_rfl
theorem elf_faint : elfw_Check.f 60 [] [⟨nameF,2,false,0,0,0⟩] [] [] = some 0 := by rfl
theorem no_double2 {l : List S38} {c d : DefV} {q : ByteArray → Option Int} (h : readV l = (upd (upd (fun _ => none) nameF c) nameF d,q)) (hd : d.strong ≤ 1) : ¬ doubleV (readV l) := by
 rintro ⟨s,d',h',hlt⟩
 rw [h] at h'
 by_cases hs : s = nameF
 ·simp only [upd,if_pos hs] at h'
  have := Option.some.inj h';subst this;omega
 simp only [upd,if_neg hs] at h';cases h'
theorem no_lacks {t : Tab} (h : ∀ s,t.2 s = none) : lacksV t = [] := by
 refine lacksV_eq (r := []) ⟨List.Pairwise.nil,fun s => ⟨fun h => by simp at h,fun hs => ?_⟩⟩;obtain ⟨h1,_⟩ := hs;rw [h s] at h1;cases h1
theorem one_lack {q : Int} : lacksV ((fun _ => none,upd (fun _ => none) nameF q) : Tab) = [nameF] := by
 refine lacksV_eq (r := [nameF]) ⟨List.Pairwise.cons (fun _ h => by simp at h) List.Pairwise.nil,fun s => ⟨fun h => ?_,fun hs => ?_⟩⟩
 ·obtain rfl : s = nameF := by simpa using h
  exact ⟨rfl,rfl⟩
 obtain ⟨h1,_⟩ := hs
 by_cases e : s = nameF
 ·simp [e]
 simp only [upd,if_neg e] at h1;cases h1
def exA : List S38 := [oneSym 0 ⟨nameF,1,false, -2,4,8⟩,oneSym 1 ⟨nameF,2,false, -1,0,0⟩]
def exB : List S38 := [oneSym 0 ⟨nameF,1,false, -1,0,0⟩,oneSym 1 ⟨nameF,1,false, -1,0,0⟩]
def exC : List S38 := [oneSym 0 ⟨nameF,1,false,0,0,0⟩]
def exD : List S38 := [oneSym 0 ⟨nameF,2,false,0,0,0⟩]
def exE : List S38 := [⟨0,0,⟨[],[],[],[]⟩,[true]⟩]
theorem exA_fit : ∀ k ∈ exA,KeptFit k := by
 intro k hk;simp only [exA,List.mem_cons,List.not_mem_nil,or_false] at hk;rcases hk with rfl | rfl <;> exact fit_one _ _
theorem exB_fit : ∀ k ∈ exB,KeptFit k := by
 intro k hk;simp only [exB,List.mem_cons,List.not_mem_nil,or_false] at hk;rcases hk with rfl | rfl <;> exact fit_one _ _
theorem exC_fit : ∀ k ∈ exC,KeptFit k := by
 intro k hk;simp only [exC,List.mem_cons,List.not_mem_nil,or_false] at hk;subst hk;exact fit_one _ _
theorem exD_fit : ∀ k ∈ exD,KeptFit k := by
 intro k hk;simp only [exD,List.mem_cons,List.not_mem_nil,or_false] at hk;subst hk;exact fit_one _ _
theorem exE_fit : ∀ k ∈ exE,KeptFit k := by
 intro k hk;simp only [exE,List.mem_cons,List.not_mem_nil,or_false] at hk;subst hk;exact ⟨(by decide : (0 : Nat) < 1099511627776),fun s h => by simp at h,(by decide : (0 : Nat) < 1099511627776),fun r h => by simp at h,rfl⟩
theorem exA_check : resCheckV exA = 0 := by
 unfold resCheckV exA;rw [if_neg (by decide),check_one elf_common,check_one elf_weak];rfl
theorem exB_check : resCheckV exB = 0 := by
 unfold resCheckV exB;rw [if_neg (by decide),check_one elf_strong,check_one elf_strong];rfl
theorem exC_check : resCheckV exC = 0 := by
 unfold resCheckV exC;rw [if_neg (by decide),check_one elf_lack];rfl
theorem exD_check : resCheckV exD = 0 := by
 unfold resCheckV exD;rw [if_neg (by decide),check_one elf_faint];rfl
theorem exE_check : resCheckV exE = 8 := by
 unfold resCheckV exE;rw [if_neg (by decide),checkGo_bad (.inr (by decide))]
theorem exA_read : readV exA = (upd (upd (fun _ => none) nameF ⟨0,8,4,0,0,0,true⟩) nameF ⟨1,0,0,1,0,0,true⟩,fun _ => none) := by kernel_rfl
theorem exB_read : readV exB = (upd (upd (fun _ => none) nameF ⟨2,0,0,0,0,1,true⟩) nameF ⟨2,0,0,0,0,2,true⟩,fun _ => none) := by kernel_rfl
theorem exC_read : readV exC = (fun _ => none,upd (fun _ => none) nameF 1) := by kernel_rfl
theorem exD_read : readV exD = (fun _ => none,fun _ => none) := by kernel_rfl
theorem exA_bind : resolve_Bind.f exA = some ([[⟨1,0⟩],[⟨1,0⟩]],0) := by
 unfold resolve_Bind.f bindV;rw [if_pos exA_fit,if_pos exA_check,if_neg (no_double2 exA_read (by decide)),if_pos (by rw [exA_read];exact no_lacks fun _ => rfl),exA_read];rfl
theorem exB_bind : resolve_Bind.f exB = some ([],230) := by
 unfold resolve_Bind.f bindV;rw [if_pos exB_fit,if_pos exB_check,if_pos ⟨nameF,⟨2,0,0,0,0,2,true⟩,by rw [exB_read];rfl,by decide⟩]
theorem exC_none : ¬ doubleV (readV exC) := by
 rintro ⟨s,d,h,_⟩
 rw [exC_read] at h;cases h
theorem exC_bind : resolve_Bind.f exC = some ([],231) := by
 unfold resolve_Bind.f bindV;rw [if_pos exC_fit,if_pos exC_check,if_neg exC_none,if_neg (by rw [exC_read,one_lack];exact List.cons_ne_nil _ _)]
theorem exC_lacks : resolve_Lacks.f exC = some ([nameF],0) := by
 unfold resolve_Lacks.f resLacksV;rw [if_pos exC_fit,if_pos exC_check,exC_read,one_lack]
theorem exD_bind : resolve_Bind.f exD = some ([[⟨-1, -1⟩]],0) := by
 unfold resolve_Bind.f bindV;rw [if_pos exD_fit,if_pos exD_check,if_neg (by rintro ⟨s,d,h,_⟩;rw [exD_read] at h;cases h),if_pos (by rw [exD_read];exact no_lacks fun _ => rfl),exD_read];rfl
theorem exE_bind : resolve_Bind.f exE = some ([],8) := by
 unfold resolve_Bind.f bindV;rw [if_pos exE_fit,if_neg (by rw [exE_check];decide),exE_check]
theorem exA_kept : quoinlaw23_kept.f 60 [⟨⟨#[]⟩,1,false, -2,4,8⟩,⟨⟨#[]⟩,2,false, -1,0,0⟩] = some (exA,[⟨nameF,1,false, -2,4,8⟩,⟨nameF,2,false, -1,0,0⟩]) := by kernel_rfl
theorem exB_kept : quoinlaw23_kept.f 60 [⟨⟨#[]⟩,1,false, -1,0,0⟩,⟨⟨#[]⟩,1,false, -1,0,0⟩] = some (exB,[⟨nameF,1,false, -1,0,0⟩,⟨nameF,1,false, -1,0,0⟩]) := by kernel_rfl
theorem exC_kept : quoinlaw23_kept.f 60 [⟨⟨#[]⟩,1,false,0,0,0⟩] = some (exC,[⟨nameF,1,false,0,0,0⟩]) := by kernel_rfl
theorem exD_kept : quoinlaw23_kept.f 60 [⟨⟨#[]⟩,2,false,0,0,0⟩] = some (exD,[⟨nameF,2,false,0,0,0⟩]) := by kernel_rfl
theorem exA_stands : quoinlaw23_stands.f 60 exA = some (1,0,true) := by
 unfold quoinlaw23_stands.f;rw [exA_bind];rfl
theorem exD_stands : quoinlaw23_stands.f 60 exD = some (-1, -1,true) := by
 unfold quoinlaw23_stands.f;rw [exD_bind];rfl
end Go.Proofs.YtalomolellcefaaDoor.Q
namespace Go.Proofs.YtalomolellcefaaDoor.Q
open Go.RowKit Go.Proofs.YtalomolellcefaaDoorW.PrintWords Go.Proofs.YtalomolellcefaaDoorW.PrintLast Go.Proofs.YtalomolellcefaaDoorW.PrintMore
attribute [local go_sem] max2_int min2_int max_two min_two
def quoinlaw23_common.f  : Option (ByteArray × Int × Bool × Int × Int × Int) := some ((⟨#[]⟩ : ByteArray),1,false,(-2),4,8)
set_option maxHeartbeats 8000000 in
set_option maxRecDepth 100000 in
theorem quoinlaw23_common.calls  (r1 : ByteArray) (r2 : Int) (r3 : Bool) (r4 : Int) (r5 : Int) (r6 : Int) (w : World) (h : quoinlaw23_common.f  = some (r1,r2,r3,r4,r5,r6)) :
  Calls Tryd.prog 14 #[] w fun e w' => e = .returned (.agg #[.string r1, .int .u8 r2, .bool r3, .int .i64 r4, .int .i64 r5, .int .i64 r6]) ∧ Below w.heap.size w w' := by
 have hu40 := Tryd.underlying40;have HB := am0 (Below.refl w.heap.size w);have H : (some ((⟨#[]⟩ : ByteArray),1,false,(-2),4,8)) = some (r1,r2,r3,r4,r5,r6) := h;clear h;simp only [Option.some.injEq,Prod.mk.injEq] at H;obtain ⟨rfl,rfl,rfl,rfl,rfl,rfl⟩ := H;go_enter Tryd.func14,Tryd.ntmps14
 go_wp2_with (first | ((with_reducible refine gate_dst (N := 0) rfl ?_);refine box_event ?hg (N := 0) ?hd (cs := #[.string (⟨#[]⟩ : ByteArray), .int .u8 0, .bool false, .int .i64 0, .int .i64 0, .int .i64 0]) (t := 40) ?hr ?_;(case hd => rfl);(case hg => rfl);(case hr => first | (go_simp;done) | (go_simp;rfl));intro gb228 hg w1 hbox hb;have n0_ := am0 (below_step (by repeat (first | (with_reducible first | exact HB.out | apply below_alloc | apply pw_below_drewN | apply below_drew1) | exact HB.out)) hb);have n1_ := am0 (hbox);have n2_ := am0 ((by rw [hg];exact (below_size (by repeat (first | (with_reducible first | exact HB.out | apply below_alloc | apply pw_below_drewN | apply below_drew1) | exact HB.out))) : w.heap.size ≤ gb228));have n3_ := am0 ((by rw [hg];exact (below_size (by repeat (first | (with_reducible first | exact HB.out | apply below_alloc | apply pw_below_drewN | apply below_drew1) | exact HB.out))) : w.heap.size ≤ gb228));clear HB;have HB := n0_;have BK228 := n1_;have GW228 := n2_;have GE228 := n3_;clear n0_ n1_ n2_ n3_;clear hb hbox hg;have hcz2_0 : w1.cell? ⟨gb228,0,none⟩ = some (.string (⟨#[]⟩ : ByteArray)) := (blk_cell BK228.out 0).trans rfl;have hcz2_1 : w1.cell? ⟨gb228,1,none⟩ = some (.int .u8 0) := (blk_cell BK228.out 1).trans rfl;have hcz2_2 : w1.cell? ⟨gb228,2,none⟩ = some (.bool false) := (blk_cell BK228.out 2).trans rfl;have hcz2_3 : w1.cell? ⟨gb228,3,none⟩ = some (.int .i64 0) := (blk_cell BK228.out 3).trans rfl;have hcz2_4 : w1.cell? ⟨gb228,4,none⟩ = some (.int .i64 0) := (blk_cell BK228.out 4).trans rfl;have hcz2_5 : w1.cell? ⟨gb228,5,none⟩ = some (.int .i64 0) := (blk_cell BK228.out 5).trans rfl;have hfz2_0 := blk_frozen BK228.out 0;have hfz2_1 := blk_frozen BK228.out 1;have hfz2_2 := blk_frozen BK228.out 2;have hfz2_3 := blk_frozen BK228.out 3;have hfz2_4 := blk_frozen BK228.out 4;have hfz2_5 := blk_frozen BK228.out 5))
 refine bodyPost_ret (results_cell_row rfl _ _ gb228 40 #[.string (⟨#[]⟩ : ByteArray), .int .u8 1, .bool false, .int .i64 (-2), .int .i64 4, .int .i64 8] (0,0) _ rfl (by (with_reducible repeat (first | refine blk_drewN ?_ _ | refine blk_drew ?_ | refine blk_alloc ?_ _));refine blk_put (cs := #[.string (⟨#[]⟩ : ByteArray), .int .u8 1, .bool false, .int .i64 (-2), .int .i64 4, .int .i64 0]) ?_ 5 _ rfl;(with_reducible repeat (first | refine blk_drewN ?_ _ | refine blk_drew ?_ | refine blk_alloc ?_ _));refine blk_put (cs := #[.string (⟨#[]⟩ : ByteArray), .int .u8 1, .bool false, .int .i64 (-2), .int .i64 0, .int .i64 0]) ?_ 4 _ rfl;(with_reducible repeat (first | refine blk_drewN ?_ _ | refine blk_drew ?_ | refine blk_alloc ?_ _));refine blk_put (cs := #[.string (⟨#[]⟩ : ByteArray), .int .u8 1, .bool false, .int .i64 0, .int .i64 0, .int .i64 0]) ?_ 3 _ rfl;(with_reducible repeat (first | refine blk_drewN ?_ _ | refine blk_drew ?_ | refine blk_alloc ?_ _));refine blk_put (cs := #[.string (⟨#[]⟩ : ByteArray), .int .u8 1, .bool false, .int .i64 0, .int .i64 0, .int .i64 0]) ?_ 2 _ rfl;(with_reducible repeat (first | refine blk_drewN ?_ _ | refine blk_drew ?_ | refine blk_alloc ?_ _));refine blk_put (cs := #[.string (⟨#[]⟩ : ByteArray), .int .u8 0, .bool false, .int .i64 0, .int .i64 0, .int .i64 0]) ?_ 1 _ rfl;(with_reducible repeat (first | refine blk_drewN ?_ _ | refine blk_drew ?_ | refine blk_alloc ?_ _));refine blk_put (cs := #[.string (⟨#[]⟩ : ByteArray), .int .u8 0, .bool false, .int .i64 0, .int .i64 0, .int .i64 0]) ?_ 0 _ rfl;(with_reducible repeat (first | refine blk_drewN ?_ _ | refine blk_drew ?_ | refine blk_alloc ?_ _));exact BK228.out) Tryd.underlying40 rfl (by kernel_rfl)) rfl ?_;exact ⟨by first | rfl | (simp [errW_none,errW_some] <;> rfl) | (simp [*,errW_none,errW_some] <;> rfl),by repeat (first | (with_reducible first | exact HB.out | apply below_alloc | apply pw_below_drewN | apply below_drew1 | refine below_set ?_ GE228.out) | exact HB.out)⟩
end Go.Proofs.YtalomolellcefaaDoor.Q
