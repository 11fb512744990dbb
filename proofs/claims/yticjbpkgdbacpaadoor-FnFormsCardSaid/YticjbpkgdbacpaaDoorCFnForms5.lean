/- The statement FnForms holds: it answers true for all arguments. Conditions: the package-level variables that the row lists read as the program's own text lays them (tied by the card). -/
import Derived.Test.YticjbpkgdbacpaaDoorCFnForms4
import Derived.Test.YticjbpkgdbacpaaDoorRows
import Derived.Test.YticjbpkgdbacpaaDoorCards
import Derived.Test.YticjbpkgdbacpaaDoorTie
namespace Go.Proofs.YticjbpkgdbacpaaDoor.X
open Go.RowKit Go.Proofs.YticjbpkgdbacpaaDoorW.PrintWords Go.Proofs.YticjbpkgdbacpaaDoorW.PrintLast Go.Proofs.YticjbpkgdbacpaaDoorW.PrintMore
attribute [local go_sem] max2_int min2_int max_two min_two max_three min_three max_four min_four   -- for this text's walks alone
set_option linter.unusedVariables false
set_option linter.unusedSimpArgs false
open Go.Proofs.YticjbpkgdbacpaaDoorW.PrintWords renaming blk_drewN -> bDn
open Go.Proofs.YticjbpkgdbacpaaDoorW.PrintWords renaming blk_drew -> bDr
open Go.Proofs.YticjbpkgdbacpaaDoorW.PrintWords renaming blk_alloc -> bAl
open Go.Proofs.YticjbpkgdbacpaaDoorW.PrintWords renaming blk_frozen -> bFr
open Go.Proofs.YticjbpkgdbacpaaDoorW.PrintWords renaming blk_cell -> bCe
open Go.Proofs.YticjbpkgdbacpaaDoorW.PrintWords.Aside0 renaming mk -> aMk
open Go.World renaming block_lt_of_cell? -> wLt
open Go.Proofs.YticjbpkgdbacpaaDoorW.PrintWords renaming pw_below_drewN -> bwN
open Go.Proofs.YticjbpkgdbacpaaDoorW.PrintWords renaming below_drew1 -> bw1
open Go.Proofs.YticjbpkgdbacpaaDoorW.PrintWords renaming below_alloc -> bwA
section
/-! ### spec_l11Form: function 40 -/
mutual
def spec_l11Form.l0 : Nat → List (S55) → List ByteArray → Int → Option ((List (S55)) × Bool)
 | 0,_,_,_ => none
 | k + 1,x4,x5,x6 => if x6 < (x5.length : Int) then (if 0 ≤ x6 then ((spec_l00Cut.f k (rdOf ByteArray.empty x5 x6) 61).bind fun t226 => (if (t226.length : Int) = 2 then (spec_l11Form.j1 k x4 x5 x6 t226 ((x4.length : Int) == 8)) else (spec_l11Form.j1 k x4 x5 x6 t226 true))) else (none)) else (some (x4,true))
def spec_l11Form.j1 : Nat → List (S55) → List ByteArray → Int → List ByteArray → Bool → Option ((List (S55)) × Bool)
 | 0,_,_,_,_,_ => none
 | k + 1,x4,x5,x6,x7,x36 => if x36 = true then (some ((([] : List (S55))),false)) else (if 0 < (x7.length : Int) then ((spec_l11Un.f k (rdOf ByteArray.empty x7 0)).bind fun bt233 => (if 1 < (x7.length : Int) then ((spec_l11Un.f k (rdOf ByteArray.empty x7 1)).bind fun bt236 => (if bt233.2 = true then (if bt236.2 = true then (if bt233.1.toList = ([] : List UInt8) then (some ((([] : List (S55))),false)) else (if x4.length < 4398046511104 then (spec_l11Form.l0 k (x4 ++ [(⟨bt233.1,bt236.1⟩ : S55)]) x5 (wrap64 (x6 + 1))) else (none))) else (some ((([] : List (S55))),false))) else (some ((([] : List (S55))),false)))) else (none))) else (none))
end
def spec_l11Form.f (k : Nat) (a0 : ByteArray) : Option ((List (S55)) × Bool):=(some (([] : List (S55)) : List (S55))).bind fun y219 => (if a0.toList = ([] : List UInt8) then (some (y219,true)) else ((spec_l00Cut.f k a0 38).bind fun t222 => (spec_l11Form.l0 k y219 t222 0)))
theorem spec_l11Form.mono_l : ∀ k,(∀ y0 y1 y2,LeO (spec_l11Form.l0 k y0 y1 y2) (spec_l11Form.l0 (k + 1) y0 y1 y2)) ∧ (∀ y0 y1 y2 y3 y4,LeO (spec_l11Form.j1 k y0 y1 y2 y3 y4) (spec_l11Form.j1 (k + 1) y0 y1 y2 y3 y4))
 | 0 => ⟨fun _ _ _ r h => by simp [spec_l11Form.l0] at h,fun _ _ _ _ _ r h => by simp [spec_l11Form.j1] at h⟩
 | k + 1 => by
  obtain ⟨ih0,ih1⟩:=spec_l11Form.mono_l k
  refine ⟨?_,?_⟩
  ·intro y0 y1 y2
   unfold spec_l11Form.l0
   repeat' first
   | (with_reducible exact ih0 _ _ _)
   | (with_reducible exact ih1 _ _ _ _ _)
   | (with_reducible exact spec_l00Cut.mono ..)
   | (with_reducible exact spec_l11Un.mono ..)
   | (with_reducible exact LeO.refl _)
   | (with_reducible exact LeO.none _)
   | (with_reducible refine LeO.ite ?_ ?_)
   | (with_reducible refine LeO.bind ?_ (fun _ => ?_))
   | exact ih0 _ _ _
   | exact ih1 _ _ _ _ _
   | exact spec_l00Cut.mono ..
   | exact spec_l11Un.mono ..
   | exact LeO.none _
   | refine LeO.ite ?_ ?_
   | refine LeO.bind ?_ (fun _ => ?_)
  ·intro y0 y1 y2 y3 y4
   unfold spec_l11Form.j1
   repeat' first
   | (with_reducible exact ih0 _ _ _)
   | (with_reducible exact ih1 _ _ _ _ _)
   | (with_reducible exact spec_l00Cut.mono ..)
   | (with_reducible exact spec_l11Un.mono ..)
   | (with_reducible exact LeO.refl _)
   | (with_reducible exact LeO.none _)
   | (with_reducible refine LeO.ite ?_ ?_)
   | (with_reducible refine LeO.bind ?_ (fun _ => ?_))
   | exact ih0 _ _ _
   | exact ih1 _ _ _ _ _
   | exact spec_l00Cut.mono ..
   | exact spec_l11Un.mono ..
   | exact LeO.none _
   | refine LeO.ite ?_ ?_
   | refine LeO.bind ?_ (fun _ => ?_)
theorem spec_l11Form.mono : ∀ a0 k,LeO (spec_l11Form.f k a0) (spec_l11Form.f (k + 1) a0):=by
 intro a0 k
 obtain ⟨ih0,ih1⟩:=spec_l11Form.mono_l k
 unfold spec_l11Form.f
 repeat' first
   | (with_reducible exact ih0 _ _ _)
   | (with_reducible exact ih1 _ _ _ _ _)
   | (with_reducible exact spec_l00Cut.mono ..)
   | (with_reducible exact spec_l11Un.mono ..)
   | (with_reducible exact LeO.refl _)
   | (with_reducible exact LeO.none _)
   | (with_reducible refine LeO.ite ?_ ?_)
   | (with_reducible refine LeO.bind ?_ (fun _ => ?_))
   | exact ih0 _ _ _
   | exact ih1 _ _ _ _ _
   | exact spec_l00Cut.mono ..
   | exact spec_l11Un.mono ..
   | exact LeO.none _
   | refine LeO.ite ?_ ?_
   | refine LeO.bind ?_ (fun _ => ?_)
set_option maxHeartbeats 8000000 in
set_option maxRecDepth 100000 in
theorem spec_l11Form.calls (k : Nat) (a0 : ByteArray) (r1 : List (S55)) (r2 : Bool) (w : World) (h : spec_l11Form.f k a0 = some (r1,r2)) :
  Calls Tryd.prog 40 #[.string a0] w fun e w' => ∃ v0_ : Value,e = .returned (.tuple #[v0_,.bool r2]) ∧ Kd.R k55 55 w' w.heap.size (fun _ => True) v0_ r1 ∧ Below w.heap.size w w':=by
 have hu55:=Tryd.underlying55
 have HB:=aMk (Below.refl w.heap.size w)
 have H : ((some (([] : List (S55)) : List (S55))).bind fun y219 => (if a0.toList = ([] : List UInt8) then (some (y219,true)) else ((spec_l00Cut.f k a0 38).bind fun t222 => (spec_l11Form.l0 k y219 t222 0)))) = some (r1,r2):=h
 clear h
 obtain ⟨y219,hy219⟩ : ∃ y_ : List (S55),y_ = (([] : List (S55))):=⟨_,rfl⟩
 replace H : (if a0.toList = ([] : List UInt8) then (some (y219,true)) else ((spec_l00Cut.f k a0 38).bind fun t222 => (spec_l11Form.l0 k y219 t222 0))) = some (r1,r2):=by first|(rw [hy219];with_reducible exact H)|(have H2_:=(Option.bind_some _ _).symm.trans H;rw [hy219];with_reducible exact H2_)|(have H2_:=(Option.bind_some _ _).symm.trans H;with_reducible exact H2_) | with_reducible exact H|(rw [hy219];exact H)|exact H
 have Ny219:=aMk hy219
 clear hy219
 by_cases c2 : a0.toList = ([] : List UInt8)
 ·rw [if_pos c2] at H
  have c2b0 : (a0.toList == ([] : List UInt8)) = true:=beq_iff_eq.mpr c2
  have c2b1 : (a0.toList != ([] : List UInt8)) = false:=bne_eq_false_iff_eq.mpr c2
  clear c2
  simp only [Option.some.injEq,Prod.mk.injEq] at H
  obtain ⟨rfl,rfl⟩:=H
  go_enter Tryd.func40,Tryd.ntmps40
  go_wp2_with (first|((with_reducible refine gate_dst (N:=12) rfl ?_);(try (refine gate_guard (by rfl) ?_;dsimp only));refine Kd.R_lit k55 _ 55 ?hg (N:=12) ?hd (xs:=([] : List (S55))) (inner:=[]) (ok:=fun _ => True) (okp:=fun _ => True) ?hr ?hp (fun _ hk => hk) trivial (Below.refl _ _) (Nat.le_refl _) (by simp) ?_;(case hd => rfl);(case hg => rfl);(case hr => first|(go_simp;done)|(go_simp;rfl));(case hp => exact (Reps.none _ _));intro v220 w3 ho4 hb hg_ hnew_;clear hg_ hnew_;(first|rw [← Ny219.out] at ho4|(simp only [Int.reduceToNat] at ho4;rw [← Ny219.out] at ho4));have n0_:=aMk (Kd.R_lower ho4 (below_size (by repeat first|exact HB.out|apply bwA|apply bwN|apply bw1)));have n1_:=aMk (below_step (by repeat first|exact HB.out|apply bwA|apply bwN|apply bw1) hb);clear HB;have HO221:=n0_;have HB:=n1_;clear n0_ n1_;clear hb ho4))
  go_ret2
  exact ⟨_,by first | rfl|(simp [errW_none,errW_some] <;> rfl)|(simp [*,errW_none,errW_some] <;> rfl),by (with_reducible repeat (first|apply Kd.R_alloc|apply Kd.R_drewN|apply Kd.R_drew));exact HO221.out,by repeat (first|(with_reducible first|exact HB.out|apply bwA|apply bwN|apply bw1)|exact HB.out)⟩
 ·rw [if_neg c2] at H
  have c2b0 : (a0.toList == ([] : List UInt8)) = false:=beq_eq_false_iff_ne.mpr c2
  have c2b1 : (a0.toList != ([] : List UInt8)) = true:=bne_iff_ne.mpr c2
  replace H:=Option.bind_eq_some_iff.mp H
  obtain ⟨t222,A50,H⟩:=H
  replace H : (spec_l11Form.l0 k y219 t222 0) = some (r1,r2):=H
  have A5:=aMk A50
  clear A50
  have H':=aMk H
  clear H
  go_enter Tryd.func40,Tryd.ntmps40
  go_wp2_with (first|((with_reducible refine gate_dst (N:=12) rfl ?_);(try (refine gate_guard (by rfl) ?_;dsimp only));refine Kd.R_lit k55 _ 55 ?hg (N:=12) ?hd (xs:=([] : List (S55))) (inner:=[]) (ok:=fun _ => True) (okp:=fun _ => True) ?hr ?hp (fun _ hk => hk) trivial (Below.refl _ _) (Nat.le_refl _) (by simp) ?_;(case hd => rfl);(case hg => rfl);(case hr => first|(go_simp;done)|(go_simp;rfl));(case hp => exact (Reps.none _ _));intro v220 w6 ho7 hb hg_ hnew_;clear hg_ hnew_;(first|rw [← Ny219.out] at ho7|(simp only [Int.reduceToNat] at ho7;rw [← Ny219.out] at ho7));have n0_:=aMk (Kd.R_lower ho7 (below_size (by repeat first|exact HB.out|apply bwA|apply bwN|apply bw1)));have n1_:=aMk (below_step (by repeat first|exact HB.out|apply bwA|apply bwN|apply bw1) hb);clear HB;have HO221:=n0_;have HB:=n1_;clear n0_ n1_;clear hb ho7)|((with_reducible refine gate_callee (f:=63) rfl ?_);refine goesL_ (some 17) rfl rfl Tryd.func63 (by kernel_rfl) rfl #[.string a0,.int .u8 38] rfl (by (try simp only [List.map_toArray,List.map_cons,List.map_nil]);first | done | rfl|(simp only [List.length_drop,List.length_take];rfl)) ?_;(with_reducible refine (spec_l00Cut.calls k a0 38 t222 _ A5.out).mono ?_);rintro e w8 ⟨v223,rfl,ho0,hb⟩;refine ⟨_,rfl,?_⟩;have n0_:=aMk (Kd.R_below (by (with_reducible repeat (first|apply Kd.R_alloc|apply Kd.R_drewN|apply Kd.R_drew));exact HO221.out) hb);have n1_:=aMk (Kd.R_lower ho0 (below_size (by repeat first|exact HB.out|apply bwA|apply bwN|apply bw1)));have n2_:=aMk (below_step (by repeat first|exact HB.out|apply bwA|apply bwN|apply bw1) hb);clear HO221;clear HB;have HO221:=n0_;have HO224:=n1_;have HB:=n2_;clear n0_ n1_ n2_;(try clear hb);(try clear hb2);(try clear hk);(try clear hi);(try clear ho0)))
  go_loopg [4,6] k (fun kq v4 v6 w' => ∃ (x4_1 : List (S55)) (x6_1 : Int),v6 = .int .i64 x6_1 ∧ Aside0 (spec_l11Form.l0 kq x4_1 t222 x6_1 = some (r1,r2)) ∧ Aside0 (kq ≤ k) ∧ Aside0 (Kd.R k55 55 w' w.heap.size (fun _ => True) v4 x4_1) ∧ Aside0 (Kd.R Kd.string 9 w' w.heap.size (fun _ => True) v223 t222) ∧ Aside0 (Below w.heap.size w w'))
  case atStart => exact ⟨(y219),(0),(by first | rfl|(simp;done)|(simp [*];done)|(simp [ne_nil_b];done)|(simp [ne_nil_b, *];done)),H',⟨Nat.le_refl _⟩,⟨by (with_reducible repeat (first|apply Kd.R_alloc|apply Kd.R_drewN|apply Kd.R_drew));exact HO221.out⟩,⟨by (with_reducible repeat (first|apply Kd.R_alloc|apply Kd.R_drewN|apply Kd.R_drew));exact HO224.out⟩,⟨by repeat (first|(with_reducible first|exact HB.out|apply bwA|apply bwN|apply bw1)|exact HB.out)⟩⟩
  case round =>
   clear H'
   try clear c2
   try clear c2b0
   try clear c2b1
   try clear p2
   try clear c4
   try clear c6
   obtain ⟨x4_1,x6_1,rfl,HA,HK1,HO_4,HO_5,HB⟩:=hrel
   cases gk with
   | zero => exact absurd HA.out (by simp [spec_l11Form.l0])
   | succ k1 =>
    have H:=HA.out
    clear HA
    simp only [spec_l11Form.l0] at H
    by_cases c9 : x6_1 < (t222.length : Int)
    ·rw [if_pos c9] at H
     have c9b0 : decide (x6_1 < (t222.length : Int)) = true:=decide_eq_true c9
     clear c9
     by_cases c10 : 0 ≤ x6_1
     ·rw [if_pos c10] at H
      have c10b0 : decide (0 ≤ x6_1) = true:=decide_eq_true c10
      clear c10
      replace H:=Option.bind_eq_some_iff.mp H
      obtain ⟨t226,A110,H⟩:=H
      replace H : (if (t226.length : Int) = 2 then (spec_l11Form.j1 k1 x4_1 t222 x6_1 t226 ((x4_1.length : Int) == 8)) else (spec_l11Form.j1 k1 x4_1 t222 x6_1 t226 true)) = some (r1,r2):=H
      have A11:=aMk A110
      clear A110
      have HC12:=aMk H
      clear H
      obtain ⟨Ao13,co13,eo13⟩:=Kd.R_slice HO_5.out
      subst eo13
      have p225 : 0 ≤ (x6_1 : Int):=of_decide_eq_true (by first|(with_reducible assumption) | assumption)
      have q225 : x6_1 < (t222.length : Int):=of_decide_eq_true (by first|(with_reducible assumption) | assumption)
      obtain ⟨ad225,e225,hx225_0⟩:=Kd.at_string (Kd.R_reads' HO_5.out).2.2 x6_1 p225 q225
      cases e225
      replace p225:=eq_true p225
      replace q225:=eq_true q225
      go_upto_region 9 with (first|((with_reducible refine gate_callee (f:=63) rfl ?_);refine goesL_ (some 28) rfl rfl Tryd.func63 (by kernel_rfl) rfl #[.string (rdOf ByteArray.empty t222 x6_1),.int .u8 61] rfl (by (try simp only [List.map_toArray,List.map_cons,List.map_nil]);first | done | rfl|(simp only [List.length_drop,List.length_take];rfl)) ?_;(with_reducible refine (spec_l00Cut.calls k1 (rdOf ByteArray.empty t222 x6_1) 61 t226 _ A11.out).mono ?_);rintro e w14 ⟨v227,rfl,ho0,hb⟩;refine ⟨_,rfl,?_⟩;have n0_:=aMk (Kd.R_below (by (with_reducible repeat (first|apply Kd.R_alloc|apply Kd.R_drewN|apply Kd.R_drew));exact HO_4.out) hb);have n1_:=aMk (Kd.R_elder' (by (with_reducible repeat (first|apply Kd.R_alloc|apply Kd.R_drewN|apply Kd.R_drew));exact HO_5.out) (Kd.R_base ho0) hb);have n2_:=aMk (Kd.R_lower (Kd.R_new' ho0 (Kd.R_lt (by (with_reducible repeat (first|apply Kd.R_alloc|apply Kd.R_drewN|apply Kd.R_drew));exact HO_5.out))) (below_size (by repeat first|exact HB.out|apply bwA|apply bwN|apply bw1)));have n3_:=aMk (below_step (by repeat first|exact HB.out|apply bwA|apply bwN|apply bw1) hb);clear HO_4;clear HO_5;clear HB;have HO_4:=n0_;have HO_5:=n1_;have HO228:=n2_;have HB:=n3_;clear n0_ n1_ n2_ n3_;(try clear hb);(try clear hb2);(try clear hk);(try clear hi);(try clear ho0)))
      (try simp only [Act.put,List.setIfInBounds_toArray,List.set_cons_zero,List.set_cons_succ])
      go_cut [36] (fun v36 wc => ∃ (kq : Nat) (x36_11 : Bool),v36 = .bool x36_11 ∧ Aside0 (spec_l11Form.j1 kq x4_1 t222 x6_1 t226 x36_11 = some (r1,r2)) ∧ Aside0 (kq ≤ k1) ∧ Aside0 (Kd.R k55 55 wc w.heap.size (fun _ => True) u4 x4_1) ∧ Aside0 (Kd.R Kd.string 9 wc w.heap.size (fun k_ => some k_ ≠ (v227 : Value).ownBlock) (.slice (some ad225) t222.length co13) t222) ∧ Aside0 (Kd.R Kd.string 9 wc w.heap.size (fun k_ => some k_ ≠ ((.slice (some ad225) t222.length co13) : Value).ownBlock) v227 t226) ∧ Aside0 (Below w.heap.size w wc))
      case first =>
       have H:=HC12.out
       clear HC12
       by_cases c15 : (t226.length : Int) = 2
       ·rw [if_pos c15] at H
        have c15b0 : ((t226.length : Int) == 2) = true:=beq_iff_eq.mpr c15
        have c15b1 : ((t226.length : Int) != 2) = false:=bne_eq_false_iff_eq.mpr c15
        clear c15
        (first|rw [c15b0]|(simp only [i64_w,i32_w];rw [c15b0]) | skip)
        have H':=aMk H
        clear H
        obtain ⟨Ao16,co16,eo16⟩:=Kd.R_slice HO228.out
        subst eo16
        obtain ⟨Ao17,co17,eo17⟩:=Kd.R_slice HO_4.out
        subst eo17
        go_wp2
        go_meet
        case rel => exact ⟨_,(((x4_1.length : Int) == 8)),(by first | rfl|(simp;done)|(simp [*];done)|(simp [ne_nil_b];done)|(simp [ne_nil_b, *];done)),H',⟨by have:=HK1.out;first | omega|exact Nat.le_refl _⟩,⟨by (with_reducible repeat (first|apply Kd.R_alloc|apply Kd.R_drewN|apply Kd.R_drew));exact HO_4.out⟩,⟨by (with_reducible repeat (first|apply Kd.R_alloc|apply Kd.R_drewN|apply Kd.R_drew));exact Kd.R_mono HO_5.out (fun _ hk => hk.2)⟩,⟨by (with_reducible repeat (first|apply Kd.R_alloc|apply Kd.R_drewN|apply Kd.R_drew));exact Kd.R_mono HO228.out (fun _ hk => hk.2)⟩,⟨by repeat (first|(with_reducible first|exact HB.out|apply bwA|apply bwN|apply bw1)|exact HB.out)⟩⟩
       ·rw [if_neg c15] at H
        have c15b0 : ((t226.length : Int) == 2) = false:=beq_eq_false_iff_ne.mpr c15
        have c15b1 : ((t226.length : Int) != 2) = true:=bne_iff_ne.mpr c15
        (first|rw [c15b0]|(simp only [i64_w,i32_w];rw [c15b0]) | skip)
        have H':=aMk H
        clear H
        obtain ⟨Ao18,co18,eo18⟩:=Kd.R_slice HO228.out
        subst eo18
        go_wp2
        go_meet
        case rel => exact ⟨_,(true),(by first | rfl|(simp;done)|(simp [*];done)|(simp [ne_nil_b];done)|(simp [ne_nil_b, *];done)),H',⟨by have:=HK1.out;first | omega|exact Nat.le_refl _⟩,⟨by (with_reducible repeat (first|apply Kd.R_alloc|apply Kd.R_drewN|apply Kd.R_drew));exact HO_4.out⟩,⟨by (with_reducible repeat (first|apply Kd.R_alloc|apply Kd.R_drewN|apply Kd.R_drew));exact Kd.R_mono HO_5.out (fun _ hk => hk.2)⟩,⟨by (with_reducible repeat (first|apply Kd.R_alloc|apply Kd.R_drewN|apply Kd.R_drew));exact Kd.R_mono HO228.out (fun _ hk => hk.2)⟩,⟨by repeat (first|(with_reducible first|exact HB.out|apply bwA|apply bwN|apply bw1)|exact HB.out)⟩⟩
      case rest =>
       clear HC12
       try clear c1
       try clear c2
       try clear c2b0
       try clear c2b1
       try clear p2
       try clear q2
       try clear hx2
       try clear c4
       try clear c6
       try clear c9
       try clear c9b0
       try clear c10
       try clear c10b0
       try clear c15
       try clear c15b0
       try clear c15b1
       try clear hx225_0
       try clear p2
       try clear p225
       try clear q225
       obtain ⟨kq,x36_11,rfl,HA,HJ11,HO_4,HO_5,HO_7,HB⟩:=hcut
       cases kq with
       | zero => exact absurd HA.out (by simp [spec_l11Form.j1])
       | succ kj11 =>
        have H:=HA.out
        clear HA
        simp only [spec_l11Form.j1] at H
        by_cases c19 : x36_11 = true
        ·subst c19
         have H1 : (some ((([] : List (S55))),false)) = some (r1,r2):=by rw [if_pos rfl] at H;exact H
         clear H
         have H:=H1
         clear H1
         obtain ⟨y229,hy229⟩ : ∃ y_ : List (S55),y_ = (([] : List (S55))):=⟨_,rfl⟩
         replace H : (some (y229,false)) = some (r1,r2):=by first|(rw [hy229];with_reducible exact H)|(have H2_:=(Option.bind_some _ _).symm.trans H;rw [hy229];with_reducible exact H2_)|(have H2_:=(Option.bind_some _ _).symm.trans H;with_reducible exact H2_) | with_reducible exact H|(rw [hy229];exact H)|exact H
         have Ny229:=aMk hy229
         clear hy229
         simp only [Option.some.injEq,Prod.mk.injEq] at H
         obtain ⟨rfl,rfl⟩:=H
         go_wp2_with (first|((with_reducible refine gate_dst (N:=37) rfl ?_);(try (refine gate_guard (by rfl) ?_;dsimp only));refine Kd.R_lit k55 _ 55 ?hg (N:=37) ?hd (xs:=([] : List (S55))) (inner:=[]) (ok:=fun _ => True) (okp:=fun _ => True) ?hr ?hp (fun _ hk => hk) trivial (Below.refl _ _) (Nat.le_refl _) (by simp) ?_;(case hd => rfl);(case hg => rfl);(case hr => first|(go_simp;done)|(go_simp;rfl));(case hp => exact (Reps.none _ _));intro v230 w20 ho21 hb hg_ hnew_;clear hg_ hnew_;(first|rw [← Ny229.out] at ho21|(simp only [Int.reduceToNat] at ho21;rw [← Ny229.out] at ho21));have n0_:=aMk (Kd.R_elder' (by (with_reducible repeat (first|apply Kd.R_alloc|apply Kd.R_drewN|apply Kd.R_drew));exact HO_4.out) (Kd.R_base ho21) hb);have n1_:=aMk (Kd.R_below (by (with_reducible repeat (first|apply Kd.R_alloc|apply Kd.R_drewN|apply Kd.R_drew));exact HO_5.out) hb);have n2_:=aMk (Kd.R_below (by (with_reducible repeat (first|apply Kd.R_alloc|apply Kd.R_drewN|apply Kd.R_drew));exact HO_7.out) hb);have n3_:=aMk (Kd.R_lower (Kd.R_new' ho21 (Kd.R_lt (by (with_reducible repeat (first|apply Kd.R_alloc|apply Kd.R_drewN|apply Kd.R_drew));exact HO_4.out))) (below_size (by repeat first|exact HB.out|apply bwA|apply bwN|apply bw1)));have n4_:=aMk (below_step (by repeat first|exact HB.out|apply bwA|apply bwN|apply bw1) hb);clear HO_4;clear HO_5;clear HO_7;clear HB;have HO_4:=n0_;have HO_5:=n1_;have HO_7:=n2_;have HO231:=n3_;have HB:=n4_;clear n0_ n1_ n2_ n3_ n4_;clear hb ho21))
         go_ret2
         exact ⟨_,by first | rfl|(simp [errW_none,errW_some] <;> rfl)|(simp [*,errW_none,errW_some] <;> rfl),by (with_reducible repeat (first|apply Kd.R_alloc|apply Kd.R_drewN|apply Kd.R_drew));exact Kd.R_mono HO231.out (fun _ hk => trivial),by repeat (first|(with_reducible first|exact HB.out|apply bwA|apply bwN|apply bw1)|exact HB.out)⟩
        ·replace c19:=Bool.eq_false_iff.mpr c19
         subst c19
         have H1 : (if 0 < (t226.length : Int) then ((spec_l11Un.f kj11 (rdOf ByteArray.empty t226 0)).bind fun bt233 => (if 1 < (t226.length : Int) then ((spec_l11Un.f kj11 (rdOf ByteArray.empty t226 1)).bind fun bt236 => (if bt233.2 = true then (if bt236.2 = true then (if bt233.1.toList = ([] : List UInt8) then (some ((([] : List (S55))),false)) else (if x4_1.length < 4398046511104 then (spec_l11Form.l0 kj11 (x4_1 ++ [(⟨bt233.1,bt236.1⟩ : S55)]) t222 (wrap64 (x6_1 + 1))) else (none))) else (some ((([] : List (S55))),false))) else (some ((([] : List (S55))),false)))) else (none))) else (none)) = some (r1,r2):=by rw [if_neg (show ¬ (false = true) by decide)] at H;exact H
         clear H
         have H:=H1
         clear H1
         by_cases c22 : 0 < (t226.length : Int)
         ·rw [if_pos c22] at H
          have c22b0 : decide (0 < (t226.length : Int)) = true:=decide_eq_true c22
          have c22b1 : decide (0 < t226.length) = true:=decide_eq_true (by omega)
          clear c22
          replace H:=Option.bind_eq_some_iff.mp H
          obtain ⟨⟨t233,t234⟩,A230,H⟩:=H
          replace H : (if 1 < (t226.length : Int) then ((spec_l11Un.f kj11 (rdOf ByteArray.empty t226 1)).bind fun bt236 => (if t234 = true then (if bt236.2 = true then (if t233.toList = ([] : List UInt8) then (some ((([] : List (S55))),false)) else (if x4_1.length < 4398046511104 then (spec_l11Form.l0 kj11 (x4_1 ++ [(⟨t233,bt236.1⟩ : S55)]) t222 (wrap64 (x6_1 + 1))) else (none))) else (some ((([] : List (S55))),false))) else (some ((([] : List (S55))),false)))) else (none)) = some (r1,r2):=H
          have A23:=aMk A230
          clear A230
          by_cases c24 : 1 < (t226.length : Int)
          ·rw [if_pos c24] at H
           have c24b0 : decide (1 < (t226.length : Int)) = true:=decide_eq_true c24
           have c24b1 : decide (1 < t226.length) = true:=decide_eq_true (by omega)
           clear c24
           replace H:=Option.bind_eq_some_iff.mp H
           obtain ⟨⟨t236,t237⟩,A250,H⟩:=H
           replace H : (if t234 = true then (if t237 = true then (if t233.toList = ([] : List UInt8) then (some ((([] : List (S55))),false)) else (if x4_1.length < 4398046511104 then (spec_l11Form.l0 kj11 (x4_1 ++ [(⟨t233,t236⟩ : S55)]) t222 (wrap64 (x6_1 + 1))) else (none))) else (some ((([] : List (S55))),false))) else (some ((([] : List (S55))),false))) = some (r1,r2):=H
           have A25:=aMk A250
           clear A250
           by_cases c26 : t234 = true
           ·subst c26
            have H1 : (if t237 = true then (if t233.toList = ([] : List UInt8) then (some ((([] : List (S55))),false)) else (if x4_1.length < 4398046511104 then (spec_l11Form.l0 kj11 (x4_1 ++ [(⟨t233,t236⟩ : S55)]) t222 (wrap64 (x6_1 + 1))) else (none))) else (some ((([] : List (S55))),false))) = some (r1,r2):=by rw [if_pos rfl] at H;exact H
            clear H
            have H:=H1
            clear H1
            by_cases c27 : t237 = true
            ·subst c27
             have H1 : (if t233.toList = ([] : List UInt8) then (some ((([] : List (S55))),false)) else (if x4_1.length < 4398046511104 then (spec_l11Form.l0 kj11 (x4_1 ++ [(⟨t233,t236⟩ : S55)]) t222 (wrap64 (x6_1 + 1))) else (none))) = some (r1,r2):=by rw [if_pos rfl] at H;exact H
             clear H
             have H:=H1
             clear H1
             by_cases c28 : t233.toList = ([] : List UInt8)
             ·rw [if_pos c28] at H
              have c28b0 : (t233.toList == ([] : List UInt8)) = true:=beq_iff_eq.mpr c28
              have c28b1 : (t233.toList != ([] : List UInt8)) = false:=bne_eq_false_iff_eq.mpr c28
              clear c28
              obtain ⟨y238,hy238⟩ : ∃ y_ : List (S55),y_ = (([] : List (S55))):=⟨_,rfl⟩
              replace H : (some (y238,false)) = some (r1,r2):=by first|(rw [hy238];with_reducible exact H)|(have H2_:=(Option.bind_some _ _).symm.trans H;rw [hy238];with_reducible exact H2_)|(have H2_:=(Option.bind_some _ _).symm.trans H;with_reducible exact H2_) | with_reducible exact H|(rw [hy238];exact H)|exact H
              have Ny238:=aMk hy238
              clear hy238
              simp only [Option.some.injEq,Prod.mk.injEq] at H
              obtain ⟨rfl,rfl⟩:=H
              obtain ⟨Ao29,co29,eo29⟩:=Kd.R_slice HO_7.out
              subst eo29
              have p232 : 0 ≤ (0 : Int):=(by omega)
              have q232 : 0 < (t226.length : Int):=of_decide_eq_true (by first|(with_reducible assumption) | assumption)
              obtain ⟨ad232,e232,hx232_0⟩:=Kd.at_string (Kd.R_reads' HO_7.out).2.2 0 p232 q232
              cases e232
              have qi232 : (0 < t226.length) = True:=eq_true (by omega)
              (try rw [show ((0 : Int)).toNat = 0 from rfl] at hx232_0)
              (try rw [Addr.add_zero'] at hx232_0)
              replace p232:=eq_true p232
              replace q232:=eq_true q232
              go_wp2_with (first|((with_reducible refine gate_callee (f:=64) rfl ?_);refine goesL_ (some 42) rfl rfl Tryd.func64 (by kernel_rfl) rfl #[.string (rdOf ByteArray.empty t226 0)] rfl (by (try simp only [List.map_toArray,List.map_cons,List.map_nil]);first | done | rfl|(simp only [List.length_drop,List.length_take];rfl)) ?_;(with_reducible refine (spec_l11Un.calls kj11 (rdOf ByteArray.empty t226 0) t233 true _ A23.out).mono ?_);rintro e w30 ⟨rfl,hb⟩;refine ⟨_,rfl,?_⟩;have n0_:=aMk (Kd.R_below (by (with_reducible repeat (first|apply Kd.R_alloc|apply Kd.R_drewN|apply Kd.R_drew));exact HO_4.out) hb);have n1_:=aMk (Kd.R_below (by (with_reducible repeat (first|apply Kd.R_alloc|apply Kd.R_drewN|apply Kd.R_drew));exact HO_5.out) hb);have n2_:=aMk (Kd.R_below (by (with_reducible repeat (first|apply Kd.R_alloc|apply Kd.R_drewN|apply Kd.R_drew));exact HO_7.out) hb);have n3_:=aMk (below_step (by repeat first|exact HB.out|apply bwA|apply bwN|apply bw1) hb);clear HO_4;clear HO_5;clear HO_7;clear HB;have HO_4:=n0_;have HO_5:=n1_;have HO_7:=n2_;have HB:=n3_;clear n0_ n1_ n2_ n3_;(try clear hb);(try clear hb2);(try clear hk);(try clear hi);have p235 : 0 ≤ (1 : Int):=(by omega);have q235 : 1 < (t226.length : Int):=of_decide_eq_true (by first|(with_reducible assumption) | assumption);obtain ⟨ad235,e235,hx235_0⟩:=Kd.at_string (Kd.R_reads' HO_7.out).2.2 1 p235 q235;obtain rfl : ad232 = ad235:=(by injection e235);(try simp only [show (1 : Int).toNat = 1 from rfl,Nat.reduceMul,Nat.reduceEqDiff,Go.Addr.add,↓reduceIte] at hx235_0);have qi235 : (1 < t226.length) = True:=eq_true (by omega);(try rw [show ((1 : Int)).toNat = 1 from rfl] at hx235_0);replace p235:=eq_true p235;replace q235:=eq_true q235)|((with_reducible refine gate_callee (f:=64) rfl ?_);refine goesL_ (some 49) rfl rfl Tryd.func64 (by kernel_rfl) rfl #[.string (rdOf ByteArray.empty t226 1)] rfl (by (try simp only [List.map_toArray,List.map_cons,List.map_nil]);first | done | rfl|(simp only [List.length_drop,List.length_take];rfl)) ?_;(with_reducible refine (spec_l11Un.calls kj11 (rdOf ByteArray.empty t226 1) t236 true _ A25.out).mono ?_);rintro e w31 ⟨rfl,hb⟩;refine ⟨_,rfl,?_⟩;have n0_:=aMk (Kd.R_below (by (with_reducible repeat (first|apply Kd.R_alloc|apply Kd.R_drewN|apply Kd.R_drew));exact HO_4.out) hb);have n1_:=aMk (Kd.R_below (by (with_reducible repeat (first|apply Kd.R_alloc|apply Kd.R_drewN|apply Kd.R_drew));exact HO_5.out) hb);have n2_:=aMk (Kd.R_below (by (with_reducible repeat (first|apply Kd.R_alloc|apply Kd.R_drewN|apply Kd.R_drew));exact HO_7.out) hb);have n3_:=aMk (below_step (by repeat first|exact HB.out|apply bwA|apply bwN|apply bw1) hb);clear HO_4;clear HO_5;clear HO_7;clear HB;have HO_4:=n0_;have HO_5:=n1_;have HO_7:=n2_;have HB:=n3_;clear n0_ n1_ n2_ n3_;(try clear hb);(try clear hb2);(try clear hk);(try clear hi))|((with_reducible refine gate_dst (N:=62) rfl ?_);(try (refine gate_guard (by rfl) ?_;dsimp only));refine Kd.R_lit k55 _ 55 ?hg (N:=62) ?hd (xs:=([] : List (S55))) (inner:=[]) (ok:=fun _ => True) (okp:=fun _ => True) ?hr ?hp (fun _ hk => hk) trivial (Below.refl _ _) (Nat.le_refl _) (by simp) ?_;(case hd => rfl);(case hg => rfl);(case hr => first|(go_simp;done)|(go_simp;rfl));(case hp => exact (Reps.none _ _));intro v239 w32 ho33 hb hg_ hnew_;clear hg_ hnew_;(first|rw [← Ny238.out] at ho33|(simp only [Int.reduceToNat] at ho33;rw [← Ny238.out] at ho33));have n0_:=aMk (Kd.R_elder' (by (with_reducible repeat (first|apply Kd.R_alloc|apply Kd.R_drewN|apply Kd.R_drew));exact HO_4.out) (Kd.R_base ho33) hb);have n1_:=aMk (Kd.R_below (by (with_reducible repeat (first|apply Kd.R_alloc|apply Kd.R_drewN|apply Kd.R_drew));exact HO_5.out) hb);have n2_:=aMk (Kd.R_below (by (with_reducible repeat (first|apply Kd.R_alloc|apply Kd.R_drewN|apply Kd.R_drew));exact HO_7.out) hb);have n3_:=aMk (Kd.R_lower (Kd.R_new' ho33 (Kd.R_lt (by (with_reducible repeat (first|apply Kd.R_alloc|apply Kd.R_drewN|apply Kd.R_drew));exact HO_4.out))) (below_size (by repeat first|exact HB.out|apply bwA|apply bwN|apply bw1)));have n4_:=aMk (below_step (by repeat first|exact HB.out|apply bwA|apply bwN|apply bw1) hb);clear HO_4;clear HO_5;clear HO_7;clear HB;have HO_4:=n0_;have HO_5:=n1_;have HO_7:=n2_;have HO240:=n3_;have HB:=n4_;clear n0_ n1_ n2_ n3_ n4_;clear hb ho33))
              go_ret2
              exact ⟨_,by first | rfl|(simp [errW_none,errW_some] <;> rfl)|(simp [*,errW_none,errW_some] <;> rfl),by (with_reducible repeat (first|apply Kd.R_alloc|apply Kd.R_drewN|apply Kd.R_drew));exact Kd.R_mono HO240.out (fun _ hk => trivial),by repeat (first|(with_reducible first|exact HB.out|apply bwA|apply bwN|apply bw1)|exact HB.out)⟩
             ·rw [if_neg c28] at H
              have c28b0 : (t233.toList == ([] : List UInt8)) = false:=beq_eq_false_iff_ne.mpr c28
              have c28b1 : (t233.toList != ([] : List UInt8)) = true:=bne_iff_ne.mpr c28
              by_cases c34 : x4_1.length < 4398046511104
              ·rw [if_pos c34] at H
               have LMc34:=aMk c34
               clear c34
               obtain ⟨y241,hy241⟩ : ∃ y_ : List (S55),y_ = (x4_1 ++ [(⟨t233,t236⟩ : S55)]):=⟨_,rfl⟩
               replace H : (spec_l11Form.l0 kj11 y241 t222 (wrap64 (x6_1 + 1))) = some (r1,r2):=by first|(rw [hy241];with_reducible exact H)|(have H2_:=(Option.bind_some _ _).symm.trans H;rw [hy241];with_reducible exact H2_)|(have H2_:=(Option.bind_some _ _).symm.trans H;with_reducible exact H2_) | with_reducible exact H|(rw [hy241];exact H)|exact H
               have Ny241:=aMk hy241
               clear hy241
               have H':=aMk H
               clear H
               obtain ⟨Ao35,co35,eo35⟩:=Kd.R_slice HO_7.out
               subst eo35
               have p232 : 0 ≤ (0 : Int):=(by omega)
               have q232 : 0 < (t226.length : Int):=of_decide_eq_true (by first|(with_reducible assumption) | assumption)
               obtain ⟨ad232,e232,hx232_0⟩:=Kd.at_string (Kd.R_reads' HO_7.out).2.2 0 p232 q232
               cases e232
               have qi232 : (0 < t226.length) = True:=eq_true (by omega)
               (try rw [show ((0 : Int)).toNat = 0 from rfl] at hx232_0)
               (try rw [Addr.add_zero'] at hx232_0)
               replace p232:=eq_true p232
               replace q232:=eq_true q232
               go_wp2_with (first|((with_reducible refine gate_callee (f:=64) rfl ?_);refine goesL_ (some 42) rfl rfl Tryd.func64 (by kernel_rfl) rfl #[.string (rdOf ByteArray.empty t226 0)] rfl (by (try simp only [List.map_toArray,List.map_cons,List.map_nil]);first | done | rfl|(simp only [List.length_drop,List.length_take];rfl)) ?_;(with_reducible refine (spec_l11Un.calls kj11 (rdOf ByteArray.empty t226 0) t233 true _ A23.out).mono ?_);rintro e w36 ⟨rfl,hb⟩;refine ⟨_,rfl,?_⟩;have n0_:=aMk (Kd.R_below (by (with_reducible repeat (first|apply Kd.R_alloc|apply Kd.R_drewN|apply Kd.R_drew));exact HO_4.out) hb);have n1_:=aMk (Kd.R_below (by (with_reducible repeat (first|apply Kd.R_alloc|apply Kd.R_drewN|apply Kd.R_drew));exact HO_5.out) hb);have n2_:=aMk (Kd.R_below (by (with_reducible repeat (first|apply Kd.R_alloc|apply Kd.R_drewN|apply Kd.R_drew));exact HO_7.out) hb);have n3_:=aMk (below_step (by repeat first|exact HB.out|apply bwA|apply bwN|apply bw1) hb);clear HO_4;clear HO_5;clear HO_7;clear HB;have HO_4:=n0_;have HO_5:=n1_;have HO_7:=n2_;have HB:=n3_;clear n0_ n1_ n2_ n3_;(try clear hb);(try clear hb2);(try clear hk);(try clear hi);have p235 : 0 ≤ (1 : Int):=(by omega);have q235 : 1 < (t226.length : Int):=of_decide_eq_true (by first|(with_reducible assumption) | assumption);obtain ⟨ad235,e235,hx235_0⟩:=Kd.at_string (Kd.R_reads' HO_7.out).2.2 1 p235 q235;obtain rfl : ad232 = ad235:=(by injection e235);(try simp only [show (1 : Int).toNat = 1 from rfl,Nat.reduceMul,Nat.reduceEqDiff,Go.Addr.add,↓reduceIte] at hx235_0);have qi235 : (1 < t226.length) = True:=eq_true (by omega);(try rw [show ((1 : Int)).toNat = 1 from rfl] at hx235_0);replace p235:=eq_true p235;replace q235:=eq_true q235)|((with_reducible refine gate_callee (f:=64) rfl ?_);refine goesL_ (some 49) rfl rfl Tryd.func64 (by kernel_rfl) rfl #[.string (rdOf ByteArray.empty t226 1)] rfl (by (try simp only [List.map_toArray,List.map_cons,List.map_nil]);first | done | rfl|(simp only [List.length_drop,List.length_take];rfl)) ?_;(with_reducible refine (spec_l11Un.calls kj11 (rdOf ByteArray.empty t226 1) t236 true _ A25.out).mono ?_);rintro e w37 ⟨rfl,hb⟩;refine ⟨_,rfl,?_⟩;have n0_:=aMk (Kd.R_below (by (with_reducible repeat (first|apply Kd.R_alloc|apply Kd.R_drewN|apply Kd.R_drew));exact HO_4.out) hb);have n1_:=aMk (Kd.R_below (by (with_reducible repeat (first|apply Kd.R_alloc|apply Kd.R_drewN|apply Kd.R_drew));exact HO_5.out) hb);have n2_:=aMk (Kd.R_below (by (with_reducible repeat (first|apply Kd.R_alloc|apply Kd.R_drewN|apply Kd.R_drew));exact HO_7.out) hb);have n3_:=aMk (below_step (by repeat first|exact HB.out|apply bwA|apply bwN|apply bw1) hb);clear HO_4;clear HO_5;clear HO_7;clear HB;have HO_4:=n0_;have HO_5:=n1_;have HO_7:=n2_;have HB:=n3_;clear n0_ n1_ n2_ n3_;(try clear hb);(try clear hb2);(try clear hk);(try clear hi))|((with_reducible refine gate_builtin (b:=.append) (xs:=#[.tmp 63,.tmp 67]) rfl ?_);(try (refine gate_guard (by rfl) ?_;dsimp only));at_builtin;refine Kd.R_append k55 (w0:=w) w.heap.size rfl (.tmp 63) (.tmp 67) 32 55 (.agg #[(.string ⟨#[]⟩),(.string ⟨#[]⟩)]) 32 rfl Tryd.underlying32 info55 rfl (by decide) (by omega) u4 x4_1 (⟨t233,t236⟩ : S55) [.string t233,.string t236] (fun _ => True) (fun _ => False) rfl rfl ?aP (fun _ hk => hk.elim) ?aF ?aO ?aB ?aS ?aL ?_;(case aP => exact k55_mkM _ _ _ (⟨t233,t236⟩ : S55));(case aB => exact (by repeat first|exact HB.out|apply bwA|apply bwN|apply bw1));(case aF => exact (fun _ _ => trivial));(case aO => exact (by (with_reducible repeat (first|apply Kd.R_alloc|apply Kd.R_drewN|apply Kd.R_drew));exact HO_4.out));(case aS => exact (below_size (by repeat first|exact HB.out|apply bwA|apply bwN|apply bw1)));(case aL => have:=LMc34.out;omega);intro v242 w38 ho hb hg hat;rw [← Ny241.out] at ho;have n0_:=aMk (Kd.R_over' (by (with_reducible repeat (first|apply Kd.R_alloc|apply Kd.R_drewN|apply Kd.R_drew));exact HO_5.out) (Kd.R_typed (by (with_reducible repeat (first|apply Kd.R_alloc|apply Kd.R_drewN|apply Kd.R_drew));exact HO_4.out)) (by decide) hg);have n1_:=aMk (Kd.R_over' (by (with_reducible repeat (first|apply Kd.R_alloc|apply Kd.R_drewN|apply Kd.R_drew));exact HO_7.out) (Kd.R_typed (by (with_reducible repeat (first|apply Kd.R_alloc|apply Kd.R_drewN|apply Kd.R_drew));exact HO_4.out)) (by decide) hg);have n2_:=aMk (hb);have n3_:=aMk (ho);clear HO_5;clear HO_7;clear HB;clear HO_4;have HO_5:=n0_;have HO_7:=n1_;have HB:=n2_;have HO243:=n3_;clear n0_ n1_ n2_ n3_;clear ho hb hg hat))
               go_roundg kj11
               case measure => have:=HK1.out;have:=HJ11.out;omega
               case rel => exact ⟨(y241),(wrap64 (x6_1 + 1)),(by first | rfl|(simp;done)|(simp [*];done)|(simp [ne_nil_b];done)|(simp [ne_nil_b, *];done)),H',⟨by have:=HK1.out;have:=HJ11.out;omega⟩,⟨by (with_reducible repeat (first|apply Kd.R_alloc|apply Kd.R_drewN|apply Kd.R_drew));exact HO243.out⟩,⟨by (with_reducible repeat (first|apply Kd.R_alloc|apply Kd.R_drewN|apply Kd.R_drew));exact Kd.R_mono HO_5.out (fun _ hk => trivial)⟩,⟨by repeat (first|(with_reducible first|exact HB.out|apply bwA|apply bwN|apply bw1)|exact HB.out)⟩⟩
              ·rw [if_neg c34] at H
               exact absurd H (by simp)
            ·replace c27:=Bool.eq_false_iff.mpr c27
             subst c27
             have H1 : (some ((([] : List (S55))),false)) = some (r1,r2):=by rw [if_neg (show ¬ (false = true) by decide)] at H;exact H
             clear H
             have H:=H1
             clear H1
             obtain ⟨y244,hy244⟩ : ∃ y_ : List (S55),y_ = (([] : List (S55))):=⟨_,rfl⟩
             replace H : (some (y244,false)) = some (r1,r2):=by first|(rw [hy244];with_reducible exact H)|(have H2_:=(Option.bind_some _ _).symm.trans H;rw [hy244];with_reducible exact H2_)|(have H2_:=(Option.bind_some _ _).symm.trans H;with_reducible exact H2_) | with_reducible exact H|(rw [hy244];exact H)|exact H
             have Ny244:=aMk hy244
             clear hy244
             simp only [Option.some.injEq,Prod.mk.injEq] at H
             obtain ⟨rfl,rfl⟩:=H
             obtain ⟨Ao39,co39,eo39⟩:=Kd.R_slice HO_7.out
             subst eo39
             have p232 : 0 ≤ (0 : Int):=(by omega)
             have q232 : 0 < (t226.length : Int):=of_decide_eq_true (by first|(with_reducible assumption) | assumption)
             obtain ⟨ad232,e232,hx232_0⟩:=Kd.at_string (Kd.R_reads' HO_7.out).2.2 0 p232 q232
             cases e232
             have qi232 : (0 < t226.length) = True:=eq_true (by omega)
             (try rw [show ((0 : Int)).toNat = 0 from rfl] at hx232_0)
             (try rw [Addr.add_zero'] at hx232_0)
             replace p232:=eq_true p232
             replace q232:=eq_true q232
             go_wp2_with (first|((with_reducible refine gate_callee (f:=64) rfl ?_);refine goesL_ (some 42) rfl rfl Tryd.func64 (by kernel_rfl) rfl #[.string (rdOf ByteArray.empty t226 0)] rfl (by (try simp only [List.map_toArray,List.map_cons,List.map_nil]);first | done | rfl|(simp only [List.length_drop,List.length_take];rfl)) ?_;(with_reducible refine (spec_l11Un.calls kj11 (rdOf ByteArray.empty t226 0) t233 true _ A23.out).mono ?_);rintro e w40 ⟨rfl,hb⟩;refine ⟨_,rfl,?_⟩;have n0_:=aMk (Kd.R_below (by (with_reducible repeat (first|apply Kd.R_alloc|apply Kd.R_drewN|apply Kd.R_drew));exact HO_4.out) hb);have n1_:=aMk (Kd.R_below (by (with_reducible repeat (first|apply Kd.R_alloc|apply Kd.R_drewN|apply Kd.R_drew));exact HO_5.out) hb);have n2_:=aMk (Kd.R_below (by (with_reducible repeat (first|apply Kd.R_alloc|apply Kd.R_drewN|apply Kd.R_drew));exact HO_7.out) hb);have n3_:=aMk (below_step (by repeat first|exact HB.out|apply bwA|apply bwN|apply bw1) hb);clear HO_4;clear HO_5;clear HO_7;clear HB;have HO_4:=n0_;have HO_5:=n1_;have HO_7:=n2_;have HB:=n3_;clear n0_ n1_ n2_ n3_;(try clear hb);(try clear hb2);(try clear hk);(try clear hi);have p235 : 0 ≤ (1 : Int):=(by omega);have q235 : 1 < (t226.length : Int):=of_decide_eq_true (by first|(with_reducible assumption) | assumption);obtain ⟨ad235,e235,hx235_0⟩:=Kd.at_string (Kd.R_reads' HO_7.out).2.2 1 p235 q235;obtain rfl : ad232 = ad235:=(by injection e235);(try simp only [show (1 : Int).toNat = 1 from rfl,Nat.reduceMul,Nat.reduceEqDiff,Go.Addr.add,↓reduceIte] at hx235_0);have qi235 : (1 < t226.length) = True:=eq_true (by omega);(try rw [show ((1 : Int)).toNat = 1 from rfl] at hx235_0);replace p235:=eq_true p235;replace q235:=eq_true q235)|((with_reducible refine gate_callee (f:=64) rfl ?_);refine goesL_ (some 49) rfl rfl Tryd.func64 (by kernel_rfl) rfl #[.string (rdOf ByteArray.empty t226 1)] rfl (by (try simp only [List.map_toArray,List.map_cons,List.map_nil]);first | done | rfl|(simp only [List.length_drop,List.length_take];rfl)) ?_;(with_reducible refine (spec_l11Un.calls kj11 (rdOf ByteArray.empty t226 1) t236 false _ A25.out).mono ?_);rintro e w41 ⟨rfl,hb⟩;refine ⟨_,rfl,?_⟩;have n0_:=aMk (Kd.R_below (by (with_reducible repeat (first|apply Kd.R_alloc|apply Kd.R_drewN|apply Kd.R_drew));exact HO_4.out) hb);have n1_:=aMk (Kd.R_below (by (with_reducible repeat (first|apply Kd.R_alloc|apply Kd.R_drewN|apply Kd.R_drew));exact HO_5.out) hb);have n2_:=aMk (Kd.R_below (by (with_reducible repeat (first|apply Kd.R_alloc|apply Kd.R_drewN|apply Kd.R_drew));exact HO_7.out) hb);have n3_:=aMk (below_step (by repeat first|exact HB.out|apply bwA|apply bwN|apply bw1) hb);clear HO_4;clear HO_5;clear HO_7;clear HB;have HO_4:=n0_;have HO_5:=n1_;have HO_7:=n2_;have HB:=n3_;clear n0_ n1_ n2_ n3_;(try clear hb);(try clear hb2);(try clear hk);(try clear hi))|((with_reducible refine gate_dst (N:=62) rfl ?_);(try (refine gate_guard (by rfl) ?_;dsimp only));refine Kd.R_lit k55 _ 55 ?hg (N:=62) ?hd (xs:=([] : List (S55))) (inner:=[]) (ok:=fun _ => True) (okp:=fun _ => True) ?hr ?hp (fun _ hk => hk) trivial (Below.refl _ _) (Nat.le_refl _) (by simp) ?_;(case hd => rfl);(case hg => rfl);(case hr => first|(go_simp;done)|(go_simp;rfl));(case hp => exact (Reps.none _ _));intro v245 w42 ho43 hb hg_ hnew_;clear hg_ hnew_;(first|rw [← Ny244.out] at ho43|(simp only [Int.reduceToNat] at ho43;rw [← Ny244.out] at ho43));have n0_:=aMk (Kd.R_elder' (by (with_reducible repeat (first|apply Kd.R_alloc|apply Kd.R_drewN|apply Kd.R_drew));exact HO_4.out) (Kd.R_base ho43) hb);have n1_:=aMk (Kd.R_below (by (with_reducible repeat (first|apply Kd.R_alloc|apply Kd.R_drewN|apply Kd.R_drew));exact HO_5.out) hb);have n2_:=aMk (Kd.R_below (by (with_reducible repeat (first|apply Kd.R_alloc|apply Kd.R_drewN|apply Kd.R_drew));exact HO_7.out) hb);have n3_:=aMk (Kd.R_lower (Kd.R_new' ho43 (Kd.R_lt (by (with_reducible repeat (first|apply Kd.R_alloc|apply Kd.R_drewN|apply Kd.R_drew));exact HO_4.out))) (below_size (by repeat first|exact HB.out|apply bwA|apply bwN|apply bw1)));have n4_:=aMk (below_step (by repeat first|exact HB.out|apply bwA|apply bwN|apply bw1) hb);clear HO_4;clear HO_5;clear HO_7;clear HB;have HO_4:=n0_;have HO_5:=n1_;have HO_7:=n2_;have HO246:=n3_;have HB:=n4_;clear n0_ n1_ n2_ n3_ n4_;clear hb ho43))
             go_ret2
             exact ⟨_,by first | rfl|(simp [errW_none,errW_some] <;> rfl)|(simp [*,errW_none,errW_some] <;> rfl),by (with_reducible repeat (first|apply Kd.R_alloc|apply Kd.R_drewN|apply Kd.R_drew));exact Kd.R_mono HO246.out (fun _ hk => trivial),by repeat (first|(with_reducible first|exact HB.out|apply bwA|apply bwN|apply bw1)|exact HB.out)⟩
           ·replace c26:=Bool.eq_false_iff.mpr c26
            subst c26
            have H1 : (some ((([] : List (S55))),false)) = some (r1,r2):=by rw [if_neg (show ¬ (false = true) by decide)] at H;exact H
            clear H
            have H:=H1
            clear H1
            obtain ⟨y247,hy247⟩ : ∃ y_ : List (S55),y_ = (([] : List (S55))):=⟨_,rfl⟩
            replace H : (some (y247,false)) = some (r1,r2):=by first|(rw [hy247];with_reducible exact H)|(have H2_:=(Option.bind_some _ _).symm.trans H;rw [hy247];with_reducible exact H2_)|(have H2_:=(Option.bind_some _ _).symm.trans H;with_reducible exact H2_) | with_reducible exact H|(rw [hy247];exact H)|exact H
            have Ny247:=aMk hy247
            clear hy247
            simp only [Option.some.injEq,Prod.mk.injEq] at H
            obtain ⟨rfl,rfl⟩:=H
            obtain ⟨Ao44,co44,eo44⟩:=Kd.R_slice HO_7.out
            subst eo44
            have p232 : 0 ≤ (0 : Int):=(by omega)
            have q232 : 0 < (t226.length : Int):=of_decide_eq_true (by first|(with_reducible assumption) | assumption)
            obtain ⟨ad232,e232,hx232_0⟩:=Kd.at_string (Kd.R_reads' HO_7.out).2.2 0 p232 q232
            cases e232
            have qi232 : (0 < t226.length) = True:=eq_true (by omega)
            (try rw [show ((0 : Int)).toNat = 0 from rfl] at hx232_0)
            (try rw [Addr.add_zero'] at hx232_0)
            replace p232:=eq_true p232
            replace q232:=eq_true q232
            go_wp2_with (first|((with_reducible refine gate_callee (f:=64) rfl ?_);refine goesL_ (some 42) rfl rfl Tryd.func64 (by kernel_rfl) rfl #[.string (rdOf ByteArray.empty t226 0)] rfl (by (try simp only [List.map_toArray,List.map_cons,List.map_nil]);first | done | rfl|(simp only [List.length_drop,List.length_take];rfl)) ?_;(with_reducible refine (spec_l11Un.calls kj11 (rdOf ByteArray.empty t226 0) t233 false _ A23.out).mono ?_);rintro e w45 ⟨rfl,hb⟩;refine ⟨_,rfl,?_⟩;have n0_:=aMk (Kd.R_below (by (with_reducible repeat (first|apply Kd.R_alloc|apply Kd.R_drewN|apply Kd.R_drew));exact HO_4.out) hb);have n1_:=aMk (Kd.R_below (by (with_reducible repeat (first|apply Kd.R_alloc|apply Kd.R_drewN|apply Kd.R_drew));exact HO_5.out) hb);have n2_:=aMk (Kd.R_below (by (with_reducible repeat (first|apply Kd.R_alloc|apply Kd.R_drewN|apply Kd.R_drew));exact HO_7.out) hb);have n3_:=aMk (below_step (by repeat first|exact HB.out|apply bwA|apply bwN|apply bw1) hb);clear HO_4;clear HO_5;clear HO_7;clear HB;have HO_4:=n0_;have HO_5:=n1_;have HO_7:=n2_;have HB:=n3_;clear n0_ n1_ n2_ n3_;(try clear hb);(try clear hb2);(try clear hk);(try clear hi);have p235 : 0 ≤ (1 : Int):=(by omega);have q235 : 1 < (t226.length : Int):=of_decide_eq_true (by first|(with_reducible assumption) | assumption);obtain ⟨ad235,e235,hx235_0⟩:=Kd.at_string (Kd.R_reads' HO_7.out).2.2 1 p235 q235;obtain rfl : ad232 = ad235:=(by injection e235);(try simp only [show (1 : Int).toNat = 1 from rfl,Nat.reduceMul,Nat.reduceEqDiff,Go.Addr.add,↓reduceIte] at hx235_0);have qi235 : (1 < t226.length) = True:=eq_true (by omega);(try rw [show ((1 : Int)).toNat = 1 from rfl] at hx235_0);replace p235:=eq_true p235;replace q235:=eq_true q235)|((with_reducible refine gate_callee (f:=64) rfl ?_);refine goesL_ (some 49) rfl rfl Tryd.func64 (by kernel_rfl) rfl #[.string (rdOf ByteArray.empty t226 1)] rfl (by (try simp only [List.map_toArray,List.map_cons,List.map_nil]);first | done | rfl|(simp only [List.length_drop,List.length_take];rfl)) ?_;(with_reducible refine (spec_l11Un.calls kj11 (rdOf ByteArray.empty t226 1) t236 t237 _ A25.out).mono ?_);rintro e w46 ⟨rfl,hb⟩;refine ⟨_,rfl,?_⟩;have n0_:=aMk (Kd.R_below (by (with_reducible repeat (first|apply Kd.R_alloc|apply Kd.R_drewN|apply Kd.R_drew));exact HO_4.out) hb);have n1_:=aMk (Kd.R_below (by (with_reducible repeat (first|apply Kd.R_alloc|apply Kd.R_drewN|apply Kd.R_drew));exact HO_5.out) hb);have n2_:=aMk (Kd.R_below (by (with_reducible repeat (first|apply Kd.R_alloc|apply Kd.R_drewN|apply Kd.R_drew));exact HO_7.out) hb);have n3_:=aMk (below_step (by repeat first|exact HB.out|apply bwA|apply bwN|apply bw1) hb);clear HO_4;clear HO_5;clear HO_7;clear HB;have HO_4:=n0_;have HO_5:=n1_;have HO_7:=n2_;have HB:=n3_;clear n0_ n1_ n2_ n3_;(try clear hb);(try clear hb2);(try clear hk);(try clear hi))|((with_reducible refine gate_dst (N:=62) rfl ?_);(try (refine gate_guard (by rfl) ?_;dsimp only));refine Kd.R_lit k55 _ 55 ?hg (N:=62) ?hd (xs:=([] : List (S55))) (inner:=[]) (ok:=fun _ => True) (okp:=fun _ => True) ?hr ?hp (fun _ hk => hk) trivial (Below.refl _ _) (Nat.le_refl _) (by simp) ?_;(case hd => rfl);(case hg => rfl);(case hr => first|(go_simp;done)|(go_simp;rfl));(case hp => exact (Reps.none _ _));intro v248 w47 ho48 hb hg_ hnew_;clear hg_ hnew_;(first|rw [← Ny247.out] at ho48|(simp only [Int.reduceToNat] at ho48;rw [← Ny247.out] at ho48));have n0_:=aMk (Kd.R_elder' (by (with_reducible repeat (first|apply Kd.R_alloc|apply Kd.R_drewN|apply Kd.R_drew));exact HO_4.out) (Kd.R_base ho48) hb);have n1_:=aMk (Kd.R_below (by (with_reducible repeat (first|apply Kd.R_alloc|apply Kd.R_drewN|apply Kd.R_drew));exact HO_5.out) hb);have n2_:=aMk (Kd.R_below (by (with_reducible repeat (first|apply Kd.R_alloc|apply Kd.R_drewN|apply Kd.R_drew));exact HO_7.out) hb);have n3_:=aMk (Kd.R_lower (Kd.R_new' ho48 (Kd.R_lt (by (with_reducible repeat (first|apply Kd.R_alloc|apply Kd.R_drewN|apply Kd.R_drew));exact HO_4.out))) (below_size (by repeat first|exact HB.out|apply bwA|apply bwN|apply bw1)));have n4_:=aMk (below_step (by repeat first|exact HB.out|apply bwA|apply bwN|apply bw1) hb);clear HO_4;clear HO_5;clear HO_7;clear HB;have HO_4:=n0_;have HO_5:=n1_;have HO_7:=n2_;have HO249:=n3_;have HB:=n4_;clear n0_ n1_ n2_ n3_ n4_;clear hb ho48))
            go_ret2
            exact ⟨_,by first | rfl|(simp [errW_none,errW_some] <;> rfl)|(simp [*,errW_none,errW_some] <;> rfl),by (with_reducible repeat (first|apply Kd.R_alloc|apply Kd.R_drewN|apply Kd.R_drew));exact Kd.R_mono HO249.out (fun _ hk => trivial),by repeat (first|(with_reducible first|exact HB.out|apply bwA|apply bwN|apply bw1)|exact HB.out)⟩
          ·rw [if_neg c24] at H
           exact absurd H (by simp)
         ·rw [if_neg c22] at H
          exact absurd H (by simp)
     ·rw [if_neg c10] at H
      exact absurd H (by simp)
    ·rw [if_neg c9] at H
     have c9b0 : decide (x6_1 < (t222.length : Int)) = false:=decide_eq_false c9
     clear c9
     simp only [Option.some.injEq,Prod.mk.injEq] at H
     obtain ⟨rfl,rfl⟩:=H
     obtain ⟨Ao49,co49,eo49⟩:=Kd.R_slice HO_5.out
     subst eo49
     go_wp2
     go_ret2
     exact ⟨_,by first | rfl|(simp [errW_none,errW_some] <;> rfl)|(simp [*,errW_none,errW_some] <;> rfl),by (with_reducible repeat (first|apply Kd.R_alloc|apply Kd.R_drewN|apply Kd.R_drew));exact HO_4.out,by repeat (first|(with_reducible first|exact HB.out|apply bwA|apply bwN|apply bw1)|exact HB.out)⟩
end
section
/-! ### spec_ReadForm: function 14 -/
def spec_ReadForm.f (k : Nat) (a0 : ByteArray) : Option ((List (S55)) × Int):=if (a0.size : Int) > 65536 then (some ((([] : List (S55))),2)) else ((spec_l11Form.f k a0).bind fun bt253 => (if bt253.2 = true then (some (bt253.1,0)) else (some ((([] : List (S55))),3))))
theorem spec_ReadForm.mono : ∀ a0 k,LeO (spec_ReadForm.f k a0) (spec_ReadForm.f (k + 1) a0):=by
 intro a0 k
 unfold spec_ReadForm.f
 repeat' first
   | (with_reducible exact spec_l11Form.mono ..)
   | (with_reducible exact LeO.refl _)
   | (with_reducible exact LeO.none _)
   | (with_reducible refine LeO.ite ?_ ?_)
   | (with_reducible refine LeO.bind ?_ (fun _ => ?_))
   | exact spec_l11Form.mono ..
   | exact LeO.none _
   | refine LeO.ite ?_ ?_
   | refine LeO.bind ?_ (fun _ => ?_)
set_option maxHeartbeats 8000000 in
set_option maxRecDepth 100000 in
theorem spec_ReadForm.calls (k : Nat) (a0 : ByteArray) (r1 : List (S55)) (r2 : Int) (w : World) (h : spec_ReadForm.f k a0 = some (r1,r2)) :
  Calls Tryd.prog 14 #[.string a0] w fun e w' => ∃ v0_ : Value,e = .returned (.tuple #[v0_,.int .i64 r2]) ∧ Kd.R k55 55 w' w.heap.size (fun _ => True) v0_ r1 ∧ Below w.heap.size w w':=by
 have HB:=aMk (Below.refl w.heap.size w)
 have H : (if (a0.size : Int) > 65536 then (some ((([] : List (S55))),2)) else ((spec_l11Form.f k a0).bind fun bt253 => (if bt253.2 = true then (some (bt253.1,0)) else (some ((([] : List (S55))),3))))) = some (r1,r2):=h
 clear h
 by_cases c2 : (a0.size : Int) > 65536
 ·rw [if_pos c2] at H
  have c2b0 : decide (65536 < (a0.size : Int)) = true:=decide_eq_true c2
  have c2b1 : decide (65536 < a0.size) = true:=decide_eq_true (by omega)
  clear c2
  obtain ⟨y250,hy250⟩ : ∃ y_ : List (S55),y_ = (([] : List (S55))):=⟨_,rfl⟩
  replace H : (some (y250,2)) = some (r1,r2):=by first|(rw [hy250];with_reducible exact H)|(have H2_:=(Option.bind_some _ _).symm.trans H;rw [hy250];with_reducible exact H2_)|(have H2_:=(Option.bind_some _ _).symm.trans H;with_reducible exact H2_) | with_reducible exact H|(rw [hy250];exact H)|exact H
  have Ny250:=aMk hy250
  clear hy250
  simp only [Option.some.injEq,Prod.mk.injEq] at H
  obtain ⟨rfl,rfl⟩:=H
  go_enter Tryd.func14,Tryd.ntmps14
  go_wp2_with (first|((with_reducible refine gate_dst (N:=9) rfl ?_);refine Kd.R_lit k55 _ 55 ?hg (N:=9) ?hd (xs:=([] : List (S55))) (inner:=[]) (ok:=fun _ => True) (okp:=fun _ => True) ?hr ?hp (fun _ hk => hk) trivial (Below.refl _ _) (Nat.le_refl _) (by simp) ?_;(case hd => rfl);(case hg => rfl);(case hr => first|(go_simp;done)|(go_simp;rfl));(case hp => exact (Reps.none _ _));intro v251 w3 ho4 hb hg_ hnew_;clear hg_ hnew_;(first|rw [← Ny250.out] at ho4|(simp only [Int.reduceToNat] at ho4;rw [← Ny250.out] at ho4));have n0_:=aMk (Kd.R_lower ho4 (below_size (by repeat first|exact HB.out|apply bwA|apply bwN|apply bw1)));have n1_:=aMk (below_step (by repeat first|exact HB.out|apply bwA|apply bwN|apply bw1) hb);clear HB;have HO252:=n0_;have HB:=n1_;clear n0_ n1_;clear hb ho4))
  go_ret2
  exact ⟨_,by first | rfl|(simp [errW_none,errW_some] <;> rfl)|(simp [*,errW_none,errW_some] <;> rfl),by (with_reducible repeat (first|apply Kd.R_alloc|apply Kd.R_drewN|apply Kd.R_drew));exact HO252.out,by repeat (first|(with_reducible first|exact HB.out|apply bwA|apply bwN|apply bw1)|exact HB.out)⟩
 ·rw [if_neg c2] at H
  have c2b0 : decide (65536 < (a0.size : Int)) = false:=decide_eq_false c2
  have c2b1 : decide (65536 < a0.size) = false:=decide_eq_false (by omega)
  clear c2
  replace H:=Option.bind_eq_some_iff.mp H
  obtain ⟨⟨t253,t254⟩,A50,H⟩:=H
  replace H : (if t254 = true then (some (t253,0)) else (some ((([] : List (S55))),3))) = some (r1,r2):=H
  have A5:=aMk A50
  clear A50
  by_cases c6 : t254 = true
  ·subst c6
   have H1 : (some (t253,0)) = some (r1,r2):=by rw [if_pos rfl] at H;exact H
   clear H
   have H:=H1
   clear H1
   simp only [Option.some.injEq,Prod.mk.injEq] at H
   obtain ⟨rfl,rfl⟩:=H
   go_enter Tryd.func14,Tryd.ntmps14
   go_wp2_with (first|((with_reducible refine gate_callee (f:=40) rfl ?_);refine goesL_ (some 12) rfl rfl Tryd.func40 (by kernel_rfl) rfl #[.string a0] rfl (by (try simp only [List.map_toArray,List.map_cons,List.map_nil]);first | done | rfl|(simp only [List.length_drop,List.length_take];rfl)) ?_;(with_reducible refine (spec_l11Form.calls k a0 t253 true _ A5.out).mono ?_);rintro e w7 ⟨v255,rfl,ho0,hb⟩;refine ⟨_,rfl,?_⟩;have n0_:=aMk (Kd.R_lower ho0 (below_size (by repeat first|exact HB.out|apply bwA|apply bwN|apply bw1)));have n1_:=aMk (below_step (by repeat first|exact HB.out|apply bwA|apply bwN|apply bw1) hb);clear HB;have HO256:=n0_;have HB:=n1_;clear n0_ n1_;(try clear hb);(try clear hb2);(try clear hk);(try clear hi);(try clear ho0)))
   go_ret2
   exact ⟨_,by first | rfl|(simp [errW_none,errW_some] <;> rfl)|(simp [*,errW_none,errW_some] <;> rfl),by (with_reducible repeat (first|apply Kd.R_alloc|apply Kd.R_drewN|apply Kd.R_drew));exact HO256.out,by repeat (first|(with_reducible first|exact HB.out|apply bwA|apply bwN|apply bw1)|exact HB.out)⟩
  ·replace c6:=Bool.eq_false_iff.mpr c6
   subst c6
   have H1 : (some ((([] : List (S55))),3)) = some (r1,r2):=by rw [if_neg (show ¬ (false = true) by decide)] at H;exact H
   clear H
   have H:=H1
   clear H1
   obtain ⟨y257,hy257⟩ : ∃ y_ : List (S55),y_ = (([] : List (S55))):=⟨_,rfl⟩
   replace H : (some (y257,3)) = some (r1,r2):=by first|(rw [hy257];with_reducible exact H)|(have H2_:=(Option.bind_some _ _).symm.trans H;rw [hy257];with_reducible exact H2_)|(have H2_:=(Option.bind_some _ _).symm.trans H;with_reducible exact H2_) | with_reducible exact H|(rw [hy257];exact H)|exact H
   have Ny257:=aMk hy257
   clear hy257
   simp only [Option.some.injEq,Prod.mk.injEq] at H
   obtain ⟨rfl,rfl⟩:=H
   go_enter Tryd.func14,Tryd.ntmps14
   go_wp2_with (first|((with_reducible refine gate_callee (f:=40) rfl ?_);refine goesL_ (some 12) rfl rfl Tryd.func40 (by kernel_rfl) rfl #[.string a0] rfl (by (try simp only [List.map_toArray,List.map_cons,List.map_nil]);first | done | rfl|(simp only [List.length_drop,List.length_take];rfl)) ?_;(with_reducible refine (spec_l11Form.calls k a0 t253 false _ A5.out).mono ?_);rintro e w8 ⟨v255,rfl,ho0,hb⟩;refine ⟨_,rfl,?_⟩;have n0_:=aMk (Kd.R_lower ho0 (below_size (by repeat first|exact HB.out|apply bwA|apply bwN|apply bw1)));have n1_:=aMk (below_step (by repeat first|exact HB.out|apply bwA|apply bwN|apply bw1) hb);clear HB;have HO256:=n0_;have HB:=n1_;clear n0_ n1_;(try clear hb);(try clear hb2);(try clear hk);(try clear hi);(try clear ho0))|((with_reducible refine gate_dst (N:=17) rfl ?_);refine Kd.R_lit k55 _ 55 ?hg (N:=17) ?hd (xs:=([] : List (S55))) (inner:=[]) (ok:=fun _ => True) (okp:=fun _ => True) ?hr ?hp (fun _ hk => hk) trivial (Below.refl _ _) (Nat.le_refl _) (by simp) ?_;(case hd => rfl);(case hg => rfl);(case hr => first|(go_simp;done)|(go_simp;rfl));(case hp => exact (Reps.none _ _));intro v258 w9 ho10 hb hg_ hnew_;clear hg_ hnew_;(first|rw [← Ny257.out] at ho10|(simp only [Int.reduceToNat] at ho10;rw [← Ny257.out] at ho10));have n0_:=aMk (Kd.R_elder' (by (with_reducible repeat (first|apply Kd.R_alloc|apply Kd.R_drewN|apply Kd.R_drew));exact HO256.out) (Kd.R_base ho10) hb);have n1_:=aMk (Kd.R_lower (Kd.R_new' ho10 (Kd.R_lt (by (with_reducible repeat (first|apply Kd.R_alloc|apply Kd.R_drewN|apply Kd.R_drew));exact HO256.out))) (below_size (by repeat first|exact HB.out|apply bwA|apply bwN|apply bw1)));have n2_:=aMk (below_step (by repeat first|exact HB.out|apply bwA|apply bwN|apply bw1) hb);clear HO256;clear HB;have HO256:=n0_;have HO259:=n1_;have HB:=n2_;clear n0_ n1_ n2_;clear hb ho10))
   go_ret2
   exact ⟨_,by first | rfl|(simp [errW_none,errW_some] <;> rfl)|(simp [*,errW_none,errW_some] <;> rfl),by (with_reducible repeat (first|apply Kd.R_alloc|apply Kd.R_drewN|apply Kd.R_drew));exact Kd.R_mono HO259.out (fun _ hk => trivial),by repeat (first|(with_reducible first|exact HB.out|apply bwA|apply bwN|apply bw1)|exact HB.out)⟩
end
section
-- NEEDS spec.ReadForm impl.ReadForm spec.l11Form impl.readForm strings.Cut strings.Split strings.Count spec.l00Cut spec.l11Un impl.unescape
theorem cut_two (p : ByteArray) (c : UInt8) (h : Lib.countB p ⟨#[c]⟩ = 1) : ∃ a b,splitOn1 p ⟨#[c]⟩ = [a,b] ∧ cutAt p ⟨#[c]⟩ = (a,b,true):=by
 rcases Lib.indexB_cases p ⟨#[c]⟩ with hix | ⟨i,hix,hroom⟩
 ·rw [Lib.countB_miss p _ hix] at h
  omega
 ·refine ⟨p.extract 0 i,p.extract (i + (⟨#[c]⟩ : ByteArray).size) p.size,?_,?_⟩
  ·rw [splitOn1,h,Lib.splitB_hit _ 0 0 p i hix,Lib.splitB_zero,Nat.add_zero]
  ·rw [cutAt,if_pos (by omega),hix,Int.toNat_natCast]
theorem rdOf_at (l : List ByteArray) (i : Nat) (h : i < l.length) : rdOf ByteArray.empty l (i : Int) = l[i]:=by
 rw [rdOf,Int.toNat_natCast,List.getD_eq_getElem?_getD,List.getElem?_eq_getElem h]
 rfl
/-- One part of a form,read by both. -/
def formPart (p : ByteArray) (r1 r2 : ByteArray × Bool) : Option S55:=if Lib.countB p ⟨#[61]⟩ = 1 ∧ r1.2 = true ∧ r2.2 = true ∧ ¬ r1.1.toList = ([] : List UInt8) then some ⟨r1.1,r2.1⟩ else none
end
section
-- NEEDS impl.FormText spec.FormText impl.ReadForm impl.readForm strings.Split strings.Cut strings.Count strings.Join spec.l00Cut impl.unescape spec.l11Un
def goodP (p : S55) : Prop:=0 < p.f0.size ∧ p.f0.size ≤ 40 ∧ p.f1.size ≤ 40
def partT (p : S55) : ByteArray:=(escT p.f0 ++ (⟨#[61]⟩ : ByteArray)) ++ escT p.f1
theorem partT_size (p : S55) (h : goodP p) : (partT p).size ≤ 241:=by
 have a:=escT_size p.f0
 have b:=escT_size p.f1
 obtain ⟨_,h1,h2⟩:=h
 rw [partT,ByteArray.size_append,ByteArray.size_append,show (⟨#[61]⟩ : ByteArray).size = 1 from rfl]
 omega
def formT (l : List S55) : ByteArray:=⟨(joinB (l.map partT) ⟨#[38]⟩).toArray⟩
theorem escT_free (x : ByteArray) (c : UInt8) (hc : c = 38 ∨ c = 61) : c ∉ (escT x).data.toList:=by
 intro hm
 rw [escT,strOfNums] at hm
 simp only [List.mem_map] at hm
 obtain ⟨y,hy,e⟩:=hm
 obtain ⟨h0,h1,h2,h3⟩:=escFrom_mem x _ _ y hy
 obtain ⟨n,rfl⟩ : ∃ n : Nat,y = n:=⟨y.toNat,by omega⟩
 rw [Int.toNat_natCast] at e
 have e2:=congrArg UInt8.toNat e
 rw [UInt8.toNat_ofNat',Nat.mod_eq_of_lt (by omega)] at e2
 rcases hc with rfl | rfl
 ·have : (38 : UInt8).toNat = 38:=rfl
  omega
 ·have : (61 : UInt8).toNat = 61:=rfl
  omega
theorem cutL_free (c : UInt8) : ∀ l : List UInt8,c ∉ l → cutL c l = [l]
 | [],_ => rfl
 | b :: l,h => by
  rw [List.mem_cons,not_or] at h
  rw [cutL,if_neg (fun e => h.1 e.symm),cutL_free c l h.2]
  rfl
theorem cutL_app (c : UInt8) : ∀ l r : List UInt8,c ∉ l → cutL c (l ++ c :: r) = l :: cutL c r
 | [],r,_ => by rw [List.nil_append,cutL,if_pos rfl]
 | b :: l,r,h => by
  rw [List.mem_cons,not_or] at h
  rw [List.cons_append,cutL,if_neg (fun e => h.1 e.symm),cutL_app c l r h.2]
  rfl
theorem cutL_join (c : UInt8) : ∀ (x : List UInt8) (r : List (List UInt8)),c ∉ x → (∀ y ∈ r,c ∉ y) → cutL c (x ++ Lib.joinTail [c] r) = x :: r
 | x,[],hx,_ => by
  rw [show Lib.joinTail [c] [] = [] from rfl,List.append_nil]
  exact cutL_free c x hx
 | x,y :: r,hx,hr => by
  have e : Lib.joinTail [c] (y :: r) = c :: (y ++ Lib.joinTail [c] r):=by simp [Lib.joinTail]
  rw [e,cutL_app c x _ hx,cutL_join c y r (hr y List.mem_cons_self) (fun z hz => hr z (List.mem_cons_of_mem _ hz))]
theorem partT_data (p : S55) : (partT p).data.toList = (escT p.f0).data.toList ++ 61 :: (escT p.f1).data.toList:=by
 rw [partT]
 simp [ByteArray.data_append]
theorem partT_free (p : S55) : (38 : UInt8) ∉ (partT p).data.toList:=by
 rw [partT_data,List.mem_append,List.mem_cons]
 intro h
 rcases h with h | h | h
 ·exact escT_free p.f0 38 (Or.inl rfl) h
 ·exact absurd h (by decide)
 ·exact escT_free p.f1 38 (Or.inl rfl) h
theorem formT_split (p : S55) (l : List S55) : splitOn1 (formT (p :: l)) ⟨#[38]⟩ = (p :: l).map partT:=by
 apply map_data_inj
 rw [splitOn1_data]
 have e : (formT (p :: l)).data.toList = (partT p).data.toList ++ Lib.joinTail [38] ((l.map partT).map (·.data.toList)):=by
  rw [formT,joinB,List.map_cons,List.map_cons,Lib.join_cons]
 rw [e,cutL_join 38 _ _ (partT_free p) (fun y hy => by
  obtain ⟨q,hq,rfl⟩:=List.mem_map.1 hy
  obtain ⟨z,_,rfl⟩:=List.mem_map.1 hq
  exact partT_free z)]
 rfl
theorem partT_cut (p : S55) : cutAt (partT p) ⟨#[61]⟩ = (escT p.f0,escT p.f1,true) ∧ Lib.countB (partT p) ⟨#[61]⟩ = 1:=by
 have h : splitOn1 (partT p) ⟨#[61]⟩ = [escT p.f0,escT p.f1]:=by
  apply map_data_inj
  rw [splitOn1_data,partT_data,cutL_app 61 _ _ (escT_free p.f0 61 (Or.inr rfl)),cutL_free 61 _ (escT_free p.f1 61 (Or.inr rfl))]
  rfl
 have hl:=splitOn1_length (partT p) 61
 rw [h] at hl
 have hc : Lib.countB (partT p) ⟨#[61]⟩ = 1:=by
  simp only [List.length_cons,List.length_nil] at hl
  omega
 obtain ⟨a,b,s1,s2⟩:=cut_two (partT p) 61 hc
 rw [h] at s1
 injection s1 with e1 s1
 injection s1 with e2 _
 rw [s2,← e1,← e2]
 exact ⟨rfl,hc⟩
theorem un_back' (x : ByteArray) (hx : x.size ≤ 10000) (k : Nat) (hk : 20000 ≤ k) : impl_unescape.f k (escT x) = some (x,true):=by
 obtain ⟨k,rfl⟩ : ∃ q,k = q + x.size:=⟨k - x.size,by omega⟩
 exact un_back x (by omega) k (by omega)
theorem form_read (l : List S55) (hl : l.length ≤ 8) (hg : ∀ p ∈ l,goodP p) : ∀ (d i : Nat) (o : List S55),i + d = l.length → o = l.take i → ∀ k,20000 + d + 1 ≤ k →
  impl_readForm.l0 k o (l.map partT) ((l.map partT).length : Int) (i : Int) = some (l,true)
 | 0,i,o,hi,ho,k,hk => by
  obtain ⟨k,rfl⟩ : ∃ q,k = q + 1:=⟨k - 1,by omega⟩
  rw [impl_readForm.l0,List.length_map,if_neg (by omega),ho,List.take_of_length_le (by omega)]
 | d + 1,i,o,hi,ho,k,hk => by
  obtain ⟨k,rfl⟩ : ∃ q,k = q + 1:=⟨k - 1,by omega⟩
  have hlt : i < l.length:=by omega
  have hm : i < (l.map partT).length:=by rw [List.length_map];exact hlt
  have hrd : rdOf ByteArray.empty (l.map partT) (i : Int) = partT l[i]:=by rw [rdOf_at _ i hm,List.getElem_map]
  have hgi:=hg _ (List.getElem_mem hlt)
  have ht : l.take i ++ [l[i]] = l.take (i + 1):=List.take_append_getElem hlt
  generalize l[i] = p at hrd hgi ht
  obtain ⟨c1,c2⟩:=partT_cut p
  have hps:=partT_size p hgi
  obtain ⟨g0,g1,g2⟩:=hgi
  have x1 : (i : Int) < ((l.map partT).length : Int):=by omega
  have x2 : (0 : Int) ≤ (i : Int):=by omega
  have x3 : (i : Int) + 1 ≤ 9223372036854775807:=by omega
  have x4 : (-9223372036854775808 : Int) ≤ (i : Int) + 1:=by omega
  have x5 : (i : Int) + 1 = ((i + 1 : Nat) : Int):=by omega
  have x6 : (partT p).size < 4294967281:=by omega
  have x7 : o.length < 4398046511104:=by rw [ho,List.length_take];omega
  have x8 : p.f0.size ≤ 10000:=by omega
  have x9 : p.f1.size ≤ 10000:=by omega
  have x10 : 20000 ≤ k:=by omega
  have x11 : i + 1 + d = l.length:=by omega
  have x12 : 20000 + d + 1 ≤ k:=by omega
  have hne : ¬ p.f0.toList = ([] : List UInt8):=fun e => by have:=(toList_nil_iff p.f0).1 e;omega
  have hfc : strings_Count.f (partT p) (⟨#[61]⟩ : ByteArray) = some ((Lib.countB (partT p) ⟨#[61]⟩ : Nat) : Int):=if_pos rfl
  have hfk : strings_Cut.f (partT p) (⟨#[61]⟩ : ByteArray) = some (cutAt (partT p) ⟨#[61]⟩):=if_pos ⟨rfl,x6⟩
  have hw : wrap64 ((i : Int) + 1) = ((i + 1 : Nat) : Int):=(wrap_id x4 x3).trans x5
  rw [impl_readForm.l0,if_pos x1,if_pos x2,if_pos x1,hrd,hfk,c1,Option.bind_some]
  dsimp only
  rw [un_back' p.f0 x8 k x10,Option.bind_some,un_back' p.f1 x9 k x10,Option.bind_some,hfc,c2,Option.bind_some]
  dsimp only
  rw [if_pos rfl,if_neg hne,if_pos (show ((1 : Nat) : Int) = 1 from rfl),if_pos x7,hw]
  exact form_read l hl hg d (i + 1) (o ++ [p]) x11 (by rw [ho,ht]) k x12
theorem formT_size (l : List S55) (hl : l.length ≤ 8) (hg : ∀ p ∈ l,goodP p) : (joinB (l.map partT) ⟨#[38]⟩).length ≤ 10000:=by
 have h:=l00Join_run (l.map partT) ⟨#[38]⟩ (by rw [List.length_map];omega) (fun x hx => by
  obtain ⟨p,hp,rfl⟩:=List.mem_map.1 hx
  have:=partT_size p (hg p hp)
  omega) (by decide) (l.map partT).length 0 ⟨#[]⟩ 10 (by omega) (by rw [List.length_map];omega) (by simp [joinB,Lib.join_nil]) (by simp [ByteArray.size])
 have h2:=h.2
 rw [List.length_map] at h2
 omega
theorem ReadForm_back (l : List S55) (hl : l.length ≤ 8) (hg : ∀ p ∈ l,goodP p) (k : Nat) (hk : 30000 ≤ k) : impl_ReadForm.f k (formT l) = some (l,0):=by
 have hs:=formT_size l hl hg
 have hz : (formT l).size ≤ 10000:=by rw [formT,mk_size];exact hs
 rw [impl_ReadForm.f,if_neg (by omega)]
 have h : impl_readForm.f k (formT l) = some (l,true):=by
  rw [impl_readForm.f,Option.bind_some]
  cases l with
  | nil =>
   rw [if_pos (by rw [toList_nil_iff];simp [formT,joinB,Lib.join_nil,ByteArray.size])]
  | cons p r =>
   have hne : ¬ (formT (p :: r)).toList = ([] : List UInt8):=by
    rw [Lib.toList_data]
    intro e
    have e2 : (formT (p :: r)).data.toList = (partT p).data.toList ++ Lib.joinTail [38] ((r.map partT).map (·.data.toList)):=by
     rw [formT,joinB,List.map_cons,List.map_cons,Lib.join_cons]
    rw [e2,partT_data] at e
    simp at e
   have hfs : strings_Split.f (formT (p :: r)) (⟨#[38]⟩ : ByteArray) = some (splitOn1 (formT (p :: r)) ⟨#[38]⟩):=if_pos ⟨rfl,by omega⟩
   rw [if_neg hne,hfs,Option.bind_some,formT_split,if_neg (by rw [List.length_map];omega)]
   exact form_read (p :: r) hl hg (p :: r).length 0 [] (by omega) (by simp) k (by omega)
 rw [h]
 rfl
theorem form_make (l : List S55) (hl : l.length ≤ 8) (hg : ∀ p ∈ l,goodP p) : ∀ (d i : Nat) (acc : List ByteArray),i + d = l.length → acc = (l.map partT).take i → ∀ k,2 * d + 4000 ≤ k →
  impl_FormText.l0 k acc l (l.length : Int) (i : Int) = some (formT l,0)
 | 0,i,acc,hi,ha,k,hk => by
  obtain ⟨k,rfl⟩ : ∃ q,k = q + 1:=⟨k - 1,by omega⟩
  have hs:=formT_size l hl hg
  rw [impl_FormText.l0,if_neg (by omega),ha,List.take_of_length_le (by rw [List.length_map];omega),strings_Join.f,if_pos ⟨by omega,by rw [List.length_map];omega⟩]
  rfl
 | d + 1,i,acc,hi,ha,k,hk => by
  obtain ⟨k,rfl⟩ : ∃ q,k = q + 2:=⟨k - 2,by omega⟩
  have hlt : i < l.length:=by omega
  have hm : i < (l.map partT).length:=by rw [List.length_map];exact hlt
  have hrd : rd_T55 l (i : Int) = l[i]:=by
   unfold rd_T55
   rw [Int.toNat_natCast,List.getD_eq_getElem?_getD,List.getElem?_eq_getElem hlt]
   rfl
  have hgi:=hg _ (List.getElem_mem hlt)
  have ht : (l.map partT).take i ++ [partT l[i]] = (l.map partT).take (i + 1):=by rw [← List.take_append_getElem hm,List.getElem_map]
  generalize l[i] = p at hrd hgi ht
  have a:=escT_size p.f0
  have b:=escT_size p.f1
  obtain ⟨g0,g1,g2⟩:=hgi
  have x1 : (i : Int) < (l.length : Int):=by omega
  have x2 : (0 : Int) ≤ (i : Int):=by omega
  have x3 : (i : Int) + 1 ≤ 9223372036854775807:=by omega
  have x4 : (-9223372036854775808 : Int) ≤ (i : Int) + 1:=by omega
  have x5 : (i : Int) + 1 = ((i + 1 : Nat) : Int):=by omega
  have x6 : ¬ (p.f0.size : Int) > 40:=by omega
  have x7 : ¬ (p.f1.size : Int) > 40:=by omega
  have x8 : p.f0.size ≤ 1000:=by omega
  have x9 : p.f1.size ≤ 1000:=by omega
  have x10 : 3000 ≤ k:=by omega
  have x11 : i + 1 + d = l.length:=by omega
  have x12 : 2 * d + 4000 ≤ k:=by omega
  have x13 : (escT p.f0).size + 1 ≤ 9223372036854775807:=by omega
  have x14 : (escT p.f0).size + 1 + (escT p.f1).size ≤ 9223372036854775807:=by omega
  have hne : ¬ p.f0.toList = ([] : List UInt8):=fun e => by have:=(toList_nil_iff p.f0).1 e;omega
  have hal : acc.length < 8796093022208:=by rw [ha,List.length_take];omega
  have hw : wrap64 ((i : Int) + 1) = ((i + 1 : Nat) : Int):=(wrap_id x4 x3).trans x5
  rw [impl_FormText.l0,if_pos x1,if_pos x2,if_pos x1,hrd,if_neg hne,if_neg x6,decide_eq_false x7,impl_FormText.j1,if_neg (by decide),(esc_ev p.f0 x8 k x10).2,Option.bind_some,if_pos x13,(esc_ev p.f1 x9 k x10).2,Option.bind_some,
   if_pos (by rw [ByteArray.size_append,show (⟨#[61]⟩ : ByteArray).size = 1 from rfl];exact x14),if_pos hal,hw]
  exact form_make l hl hg d (i + 1) _ x11 (by rw [ha,← ht];rfl) k x12
theorem FormText_back (l : List S55) (hl : l.length ≤ 8) (hg : ∀ p ∈ l,goodP p) (k : Nat) (hk : 5000 ≤ k) : spec_FormText.f k l = some (formT l,0) ∧ impl_FormText.f k l = some (formT l,0):=by
 have h : impl_FormText.f k l = some (formT l,0):=by
  rw [impl_FormText.f,if_neg (by omega),if_neg (by omega)]
  exact form_make l hl hg l.length 0 [] (by omega) (by simp) k (by omega)
 obtain ⟨r,hr⟩:=FormText_both l
 obtain ⟨h1,h2⟩:=hr k (by omega)
 rw [h] at h2
 rw [h1,← h2]
 exact ⟨rfl,h⟩
theorem same_pairs (l : List S55) (hl : l.length ≤ 1000) : ∀ (d i : Nat),i + d = l.length → ∀ k,d < k → laws_samePairs.l0 k l l (i : Int) = some true
 | 0,i,hi,k,hk => by
  obtain ⟨k,rfl⟩ : ∃ q,k = q + 1:=⟨k - 1,by omega⟩
  rw [laws_samePairs.l0,if_neg (by omega)]
 | d + 1,i,hi,k,hk => by
  obtain ⟨k,rfl⟩ : ∃ q,k = q + 1:=⟨k - 1,by omega⟩
  have hw : wrap64 ((i : Int) + 1) = ((i + 1 : Nat) : Int):=by rw [wrap_id (by omega) (by omega)];omega
  rw [laws_samePairs.l0,if_pos (by omega),if_pos (by omega),if_pos (by omega),if_neg (by simp),hw]
  exact same_pairs l hl d (i + 1) (by omega) k (by omega)
theorem samePairs_ev (l : List S55) (hl : l.length ≤ 1000) (k : Nat) (hk : 1001 ≤ k) : laws_samePairs.f k l l = some true:=by
 rw [laws_samePairs.f,if_pos rfl]
 exact same_pairs l hl l.length 0 (by omega) k (by omega)
end
section
-- NEEDS spec.l01In impl.within
end
section
-- NEEDS spec.l11Path impl.pathOK spec.l00Letter spec.l00Digit impl.isLetter impl.isDigit strings.IndexByte impl.within
def pathc (c : Int) : Bool:=letb c || (digb c || decide (c = 47 ∨ c = 46 ∨ c = 45 ∨ c = 63 ∨ c = 61 ∨ c = 95))
end
section
/-! ### impl_methodOK: function 57 -/
def impl_methodOK.f (a0 : ByteArray) : Option (Bool):=if a0.toList = ([71,69,84] : List UInt8) then (some true) else (some (a0.toList == ([80,79,83,84] : List UInt8)))
set_option maxHeartbeats 8000000 in
set_option maxRecDepth 100000 in
theorem impl_methodOK.calls (a0 : ByteArray) (r : Bool) (w : World) (h : impl_methodOK.f a0 = some r) :
  Calls Tryd.prog 57 #[.string a0] w fun e w' => e = .returned (.bool r) ∧ Drawn0 w w':=by
 have H : (if a0.toList = ([71,69,84] : List UInt8) then (some true) else (some (a0.toList == ([80,79,83,84] : List UInt8)))) = some r:=h
 clear h
 by_cases c2 : a0.toList = ([71,69,84] : List UInt8)
 ·rw [if_pos c2] at H
  have c2b0 : (a0.toList == ([71,69,84] : List UInt8)) = true:=beq_iff_eq.mpr c2
  have c2b1 : (a0.toList != ([71,69,84] : List UInt8)) = false:=bne_eq_false_iff_eq.mpr c2
  clear c2
  obtain rfl:=Option.some.inj H
  go_enter Tryd.func57,Tryd.ntmps57
  go_wp2
  go_ret
  exact ⟨by first | rfl|(simp;done)|(simp [*];done)|(simp [ne_nil_b];done)|(simp [ne_nil_b, *];done),by repeat (first|exact Drawn0.refl _|apply Drawn0.step)⟩
 ·rw [if_neg c2] at H
  have c2b0 : (a0.toList == ([71,69,84] : List UInt8)) = false:=beq_eq_false_iff_ne.mpr c2
  have c2b1 : (a0.toList != ([71,69,84] : List UInt8)) = true:=bne_iff_ne.mpr c2
  obtain rfl:=Option.some.inj H
  go_enter Tryd.func57,Tryd.ntmps57
  go_wp2
  go_ret
  exact ⟨by first | rfl|(simp;done)|(simp [*];done)|(simp [ne_nil_b];done)|(simp [ne_nil_b, *];done),by repeat (first|exact Drawn0.refl _|apply Drawn0.step)⟩
end
section
/-! ### impl_requestOK: function 35 -/
def impl_requestOK.f (k : Nat) (a0_0 : ByteArray) (a0_1 : ByteArray) (a0_2 : ByteArray) : Option (Bool):=(impl_methodOK.f a0_0).bind fun t126 => (if t126 = true then ((impl_pathOK.f k a0_1).bind fun t127 => (if t127 = true then (some (decide ((a0_2.size : Int) ≤ 80))) else (some false))) else (some false))
theorem impl_requestOK.mono : ∀ a0 a1 a2 k,LeO (impl_requestOK.f k a0 a1 a2) (impl_requestOK.f (k + 1) a0 a1 a2):=by
 intro a0 a1 a2 k
 unfold impl_requestOK.f
 repeat' first
   | (with_reducible exact impl_pathOK.mono ..)
   | (with_reducible exact LeO.refl _)
   | (with_reducible exact LeO.none _)
   | (with_reducible refine LeO.ite ?_ ?_)
   | (with_reducible refine LeO.bind ?_ (fun _ => ?_))
   | exact impl_pathOK.mono ..
   | exact LeO.none _
   | refine LeO.ite ?_ ?_
   | refine LeO.bind ?_ (fun _ => ?_)
set_option maxHeartbeats 8000000 in
set_option maxRecDepth 100000 in
theorem impl_requestOK.calls (k : Nat) (a0_0 : ByteArray) (a0_1 : ByteArray) (a0_2 : ByteArray) (r : Bool) (w : World) (h : impl_requestOK.f k a0_0 a0_1 a0_2 = some r) :
  Calls Tryd.prog 35 #[.agg #[.string a0_0,.string a0_1,.string a0_2]] w fun e w' => e = .returned (.bool r) ∧ Below w.heap.size w w':=by
 have hu27:=Tryd.underlying27
 have HB:=aMk (Below.refl w.heap.size w)
 have H : ((impl_methodOK.f a0_0).bind fun t126 => (if t126 = true then ((impl_pathOK.f k a0_1).bind fun t127 => (if t127 = true then (some (decide ((a0_2.size : Int) ≤ 80))) else (some false))) else (some false))) = some r:=h
 clear h
 replace H:=Option.bind_eq_some_iff.mp H
 obtain ⟨t126,A20,H⟩:=H
 replace H : (if t126 = true then ((impl_pathOK.f k a0_1).bind fun t127 => (if t127 = true then (some (decide ((a0_2.size : Int) ≤ 80))) else (some false))) else (some false)) = some r:=H
 have A2:=aMk A20
 clear A20
 by_cases c3 : t126 = true
 ·subst c3
  have H1 : ((impl_pathOK.f k a0_1).bind fun t127 => (if t127 = true then (some (decide ((a0_2.size : Int) ≤ 80))) else (some false))) = some r:=by rw [if_pos rfl] at H;exact H
  clear H
  have H:=H1
  clear H1
  replace H:=Option.bind_eq_some_iff.mp H
  obtain ⟨t127,A40,H⟩:=H
  replace H : (if t127 = true then (some (decide ((a0_2.size : Int) ≤ 80))) else (some false)) = some r:=H
  have A4:=aMk A40
  clear A40
  by_cases c5 : t127 = true
  ·subst c5
   have H1 : (some (decide ((a0_2.size : Int) ≤ 80))) = some r:=by rw [if_pos rfl] at H;exact H
   clear H
   have H:=H1
   clear H1
   obtain rfl:=Option.some.inj H
   go_enter Tryd.func35,Tryd.ntmps35
   go_wp2_with (first|((with_reducible refine gate_dst (N:=1) rfl ?_);(try (refine gate_guard (by rfl) ?_;dsimp only));refine box_event ?hg (N:=1) ?hd (cs:=#[.string a0_0,.string a0_1,.string a0_2]) (t:=27) ?hr ?_;(case hd => rfl);(case hg => rfl);(case hr => first|(go_simp;done)|(go_simp;rfl));intro gb125 hg w6 hbox hb;have n0_:=aMk (below_step (by repeat first|exact HB.out|apply bwA|apply bwN|apply bw1) hb);have n1_:=aMk (hbox);have n2_:=aMk ((by rw [hg];exact (below_size (by repeat first|exact HB.out|apply bwA|apply bwN|apply bw1)) : w.heap.size ≤ gb125));have n3_:=aMk ((by rw [hg];exact (below_size (by repeat first|exact HB.out|apply bwA|apply bwN|apply bw1)) : w.heap.size ≤ gb125));clear HB;have HB:=n0_;have BK125:=n1_;have GW125:=n2_;have GE125:=n3_;clear n0_ n1_ n2_ n3_;clear hb hbox hg;have hcz7_0 : w6.cell? ⟨gb125,0,none⟩ = some (.string a0_0):=(bCe BK125.out 0).trans rfl;have hcz7_1 : w6.cell? ⟨gb125,1,none⟩ = some (.string a0_1):=(bCe BK125.out 1).trans rfl;have hcz7_2 : w6.cell? ⟨gb125,2,none⟩ = some (.string a0_2):=(bCe BK125.out 2).trans rfl;have hfz7_0:=bFr BK125.out 0;have hfz7_1:=bFr BK125.out 1;have hfz7_2:=bFr BK125.out 2)|((with_reducible refine gate_callee (f:=57) rfl ?_);refine goesL_ (some 5) rfl rfl Tryd.func57 (by kernel_rfl) rfl #[.string a0_0] rfl (by (try simp only [List.map_toArray,List.map_cons,List.map_nil]);first | done | rfl|(simp only [List.length_drop,List.length_take];rfl)) ?_;(with_reducible refine (impl_methodOK.calls a0_0 true _ A2.out).mono ?_);rintro e w' ⟨rfl,⟨nd,rfl⟩⟩;refine ⟨_,rfl,?_⟩)|(go_at_call 38;(with_reducible refine (impl_pathOK.calls k a0_1 true _ A4.out).mono ?_);rintro e w' ⟨rfl,⟨nd,rfl⟩⟩))
   go_ret
   exact ⟨by first | rfl|(simp [errW_none,errW_some] <;> rfl)|(simp [*,errW_none,errW_some] <;> rfl),by repeat (first|(with_reducible first|exact HB.out|apply bwA|apply bwN|apply bw1|refine below_set ?_ GE125.out)|exact HB.out)⟩
  ·replace c5:=Bool.eq_false_iff.mpr c5
   subst c5
   have H1 : (some false) = some r:=by rw [if_neg (show ¬ (false = true) by decide)] at H;exact H
   clear H
   have H:=H1
   clear H1
   obtain rfl:=Option.some.inj H
   go_enter Tryd.func35,Tryd.ntmps35
   go_wp2_with (first|((with_reducible refine gate_dst (N:=1) rfl ?_);(try (refine gate_guard (by rfl) ?_;dsimp only));refine box_event ?hg (N:=1) ?hd (cs:=#[.string a0_0,.string a0_1,.string a0_2]) (t:=27) ?hr ?_;(case hd => rfl);(case hg => rfl);(case hr => first|(go_simp;done)|(go_simp;rfl));intro gb125 hg w8 hbox hb;have n0_:=aMk (below_step (by repeat first|exact HB.out|apply bwA|apply bwN|apply bw1) hb);have n1_:=aMk (hbox);have n2_:=aMk ((by rw [hg];exact (below_size (by repeat first|exact HB.out|apply bwA|apply bwN|apply bw1)) : w.heap.size ≤ gb125));have n3_:=aMk ((by rw [hg];exact (below_size (by repeat first|exact HB.out|apply bwA|apply bwN|apply bw1)) : w.heap.size ≤ gb125));clear HB;have HB:=n0_;have BK125:=n1_;have GW125:=n2_;have GE125:=n3_;clear n0_ n1_ n2_ n3_;clear hb hbox hg;have hcz9_0 : w8.cell? ⟨gb125,0,none⟩ = some (.string a0_0):=(bCe BK125.out 0).trans rfl;have hcz9_1 : w8.cell? ⟨gb125,1,none⟩ = some (.string a0_1):=(bCe BK125.out 1).trans rfl;have hcz9_2 : w8.cell? ⟨gb125,2,none⟩ = some (.string a0_2):=(bCe BK125.out 2).trans rfl;have hfz9_0:=bFr BK125.out 0;have hfz9_1:=bFr BK125.out 1;have hfz9_2:=bFr BK125.out 2)|((with_reducible refine gate_callee (f:=57) rfl ?_);refine goesL_ (some 5) rfl rfl Tryd.func57 (by kernel_rfl) rfl #[.string a0_0] rfl (by (try simp only [List.map_toArray,List.map_cons,List.map_nil]);first | done | rfl|(simp only [List.length_drop,List.length_take];rfl)) ?_;(with_reducible refine (impl_methodOK.calls a0_0 true _ A2.out).mono ?_);rintro e w' ⟨rfl,⟨nd,rfl⟩⟩;refine ⟨_,rfl,?_⟩)|(go_at_call 38;(with_reducible refine (impl_pathOK.calls k a0_1 false _ A4.out).mono ?_);rintro e w' ⟨rfl,⟨nd,rfl⟩⟩))
   go_ret
   exact ⟨by first | rfl|(simp [errW_none,errW_some] <;> rfl)|(simp [*,errW_none,errW_some] <;> rfl),by repeat (first|(with_reducible first|exact HB.out|apply bwA|apply bwN|apply bw1|refine below_set ?_ GE125.out)|exact HB.out)⟩
 ·replace c3:=Bool.eq_false_iff.mpr c3
  subst c3
  have H1 : (some false) = some r:=by rw [if_neg (show ¬ (false = true) by decide)] at H;exact H
  clear H
  have H:=H1
  clear H1
  obtain rfl:=Option.some.inj H
  go_enter Tryd.func35,Tryd.ntmps35
  go_wp2_with (first|((with_reducible refine gate_dst (N:=1) rfl ?_);(try (refine gate_guard (by rfl) ?_;dsimp only));refine box_event ?hg (N:=1) ?hd (cs:=#[.string a0_0,.string a0_1,.string a0_2]) (t:=27) ?hr ?_;(case hd => rfl);(case hg => rfl);(case hr => first|(go_simp;done)|(go_simp;rfl));intro gb125 hg w10 hbox hb;have n0_:=aMk (below_step (by repeat first|exact HB.out|apply bwA|apply bwN|apply bw1) hb);have n1_:=aMk (hbox);have n2_:=aMk ((by rw [hg];exact (below_size (by repeat first|exact HB.out|apply bwA|apply bwN|apply bw1)) : w.heap.size ≤ gb125));have n3_:=aMk ((by rw [hg];exact (below_size (by repeat first|exact HB.out|apply bwA|apply bwN|apply bw1)) : w.heap.size ≤ gb125));clear HB;have HB:=n0_;have BK125:=n1_;have GW125:=n2_;have GE125:=n3_;clear n0_ n1_ n2_ n3_;clear hb hbox hg;have hcz11_0 : w10.cell? ⟨gb125,0,none⟩ = some (.string a0_0):=(bCe BK125.out 0).trans rfl;have hcz11_1 : w10.cell? ⟨gb125,1,none⟩ = some (.string a0_1):=(bCe BK125.out 1).trans rfl;have hcz11_2 : w10.cell? ⟨gb125,2,none⟩ = some (.string a0_2):=(bCe BK125.out 2).trans rfl;have hfz11_0:=bFr BK125.out 0;have hfz11_1:=bFr BK125.out 1;have hfz11_2:=bFr BK125.out 2)|((with_reducible refine gate_callee (f:=57) rfl ?_);refine goesL_ (some 5) rfl rfl Tryd.func57 (by kernel_rfl) rfl #[.string a0_0] rfl (by (try simp only [List.map_toArray,List.map_cons,List.map_nil]);first | done | rfl|(simp only [List.length_drop,List.length_take];rfl)) ?_;(with_reducible refine (impl_methodOK.calls a0_0 false _ A2.out).mono ?_);rintro e w' ⟨rfl,⟨nd,rfl⟩⟩;refine ⟨_,rfl,?_⟩))
  go_ret
  exact ⟨by first | rfl|(simp [errW_none,errW_some] <;> rfl)|(simp [*,errW_none,errW_some] <;> rfl),by repeat (first|(with_reducible first|exact HB.out|apply bwA|apply bwN|apply bw1|refine below_set ?_ GE125.out)|exact HB.out)⟩
end
section
/-! ### impl_requestText: function 36 -/
def impl_requestText.f (a0_0 : ByteArray) (a0_1 : ByteArray) (a0_2 : ByteArray) : Option (ByteArray):=if a0_0.size + 1 ≤ 9223372036854775807 then (if (a0_0 ++ (⟨#[32]⟩ : ByteArray)).size + a0_1.size ≤ 9223372036854775807 then (if ((a0_0 ++ (⟨#[32]⟩ : ByteArray)) ++ a0_1).size + 1 ≤ 9223372036854775807 then (if (((a0_0 ++ (⟨#[32]⟩ : ByteArray)) ++ a0_1) ++ (⟨#[32]⟩ : ByteArray)).size + 8 ≤ 9223372036854775807 then (if ((((a0_0 ++ (⟨#[32]⟩ : ByteArray)) ++ a0_1) ++ (⟨#[32]⟩ : ByteArray)) ++ (⟨#[72,84,84,80,47,49,46,49]⟩ : ByteArray)).size + 2 ≤ 9223372036854775807 then (if (((((a0_0 ++ (⟨#[32]⟩ : ByteArray)) ++ a0_1) ++ (⟨#[32]⟩ : ByteArray)) ++ (⟨#[72,84,84,80,47,49,46,49]⟩ : ByteArray)) ++ (⟨#[13,10]⟩ : ByteArray)).size + 12 ≤ 9223372036854775807 then (if ((((((a0_0 ++ (⟨#[32]⟩ : ByteArray)) ++ a0_1) ++ (⟨#[32]⟩ : ByteArray)) ++ (⟨#[72,84,84,80,47,49,46,49]⟩ : ByteArray)) ++ (⟨#[13,10]⟩ : ByteArray)) ++ (⟨#[72,111,115,116,58,32,112,111,114,116,97,108]⟩ : ByteArray)).size + 2 ≤ 9223372036854775807 then (if (((((((a0_0 ++ (⟨#[32]⟩ : ByteArray)) ++ a0_1) ++ (⟨#[32]⟩ : ByteArray)) ++ (⟨#[72,84,84,80,47,49,46,49]⟩ : ByteArray)) ++ (⟨#[13,10]⟩ : ByteArray)) ++ (⟨#[72,111,115,116,58,32,112,111,114,116,97,108]⟩ : ByteArray)) ++ (⟨#[13,10]⟩ : ByteArray)).size + 16 ≤ 9223372036854775807 then ((strconv_Itoa_58.f (a0_2.size : Int)).bind fun t148 => (if ((((((((a0_0 ++ (⟨#[32]⟩ : ByteArray)) ++ a0_1) ++ (⟨#[32]⟩ : ByteArray)) ++ (⟨#[72,84,84,80,47,49,46,49]⟩ : ByteArray)) ++ (⟨#[13,10]⟩ : ByteArray)) ++ (⟨#[72,111,115,116,58,32,112,111,114,116,97,108]⟩ : ByteArray)) ++ (⟨#[13,10]⟩ : ByteArray)) ++ (⟨#[67,111,110,116,101,110,116,45,76,101,110,103,116,104,58,32]⟩ : ByteArray)).size + t148.size ≤ 9223372036854775807 then (if (((((((((a0_0 ++ (⟨#[32]⟩ : ByteArray)) ++ a0_1) ++ (⟨#[32]⟩ : ByteArray)) ++ (⟨#[72,84,84,80,47,49,46,49]⟩ : ByteArray)) ++ (⟨#[13,10]⟩ : ByteArray)) ++ (⟨#[72,111,115,116,58,32,112,111,114,116,97,108]⟩ : ByteArray)) ++ (⟨#[13,10]⟩ : ByteArray)) ++ (⟨#[67,111,110,116,101,110,116,45,76,101,110,103,116,104,58,32]⟩ : ByteArray)) ++ t148).size + 4 ≤ 9223372036854775807 then (if ((((((((((a0_0 ++ (⟨#[32]⟩ : ByteArray)) ++ a0_1) ++ (⟨#[32]⟩ : ByteArray)) ++ (⟨#[72,84,84,80,47,49,46,49]⟩ : ByteArray)) ++ (⟨#[13,10]⟩ : ByteArray)) ++ (⟨#[72,111,115,116,58,32,112,111,114,116,97,108]⟩ : ByteArray)) ++ (⟨#[13,10]⟩ : ByteArray)) ++ (⟨#[67,111,110,116,101,110,116,45,76,101,110,103,116,104,58,32]⟩ : ByteArray)) ++ t148) ++ (⟨#[13,10,13,10]⟩ : ByteArray)).size + a0_2.size ≤ 9223372036854775807 then (some (((((((((((a0_0 ++ (⟨#[32]⟩ : ByteArray)) ++ a0_1) ++ (⟨#[32]⟩ : ByteArray)) ++ (⟨#[72,84,84,80,47,49,46,49]⟩ : ByteArray)) ++ (⟨#[13,10]⟩ : ByteArray)) ++ (⟨#[72,111,115,116,58,32,112,111,114,116,97,108]⟩ : ByteArray)) ++ (⟨#[13,10]⟩ : ByteArray)) ++ (⟨#[67,111,110,116,101,110,116,45,76,101,110,103,116,104,58,32]⟩ : ByteArray)) ++ t148) ++ (⟨#[13,10,13,10]⟩ : ByteArray)) ++ a0_2)) else (none)) else (none)) else (none))) else (none)) else (none)) else (none)) else (none)) else (none)) else (none)) else (none)) else (none)
def impl_requestText.T1 : Bool × List (List Nat × List Nat):=(true,[([],[]),([0],[0]),([1],[1]),([],[]),([3],[3]),([2,4],[2,4]),([5],[5]),([6],[6]),([7],[7]),([8],[8]),([9],[9]),([10],[10]),([],[]),([12],[12]),([13],[13]),([14],[14]),([11,15],[11,15]),([16],[16]),([],[]),([18],[18]),([17,19],[17,19]),([20,15,0,1,2,3,4,5,6,7,8,9,10,11,12,13,14,15,16,17,18,19,20],[20])])
def impl_requestText.B1 : List Nat:=[0,1,3,0,8,31,63,127,255,511,1023,2047,0,4096,12288,28672,65535,131071,0,262144,1048575,2097151]
theorem impl_requestText.tab1 : rtab .any (opsOf Tryd.f36 1) = impl_requestText.T1:=by kernel_rfl
theorem impl_requestText.bits1 : waitsOk impl_requestText.T1.2 impl_requestText.B1 = true:=by kernel_rfl
set_option maxHeartbeats 8000000 in
set_option maxRecDepth 100000 in
theorem impl_requestText.calls (a0_0 : ByteArray) (a0_1 : ByteArray) (a0_2 : ByteArray) (r : ByteArray) (w : World) (hGp : GLp w) (h : impl_requestText.f a0_0 a0_1 a0_2 = some r) :
  Calls Tryd.prog 36 #[.agg #[.string a0_0,.string a0_1,.string a0_2]] w fun e w' => e = .returned (.string r) ∧ Below w.heap.size w w':=by
 have HGp_:=aMk hGp
 clear hGp
 have hu27:=Tryd.underlying27
 have HB:=aMk (Below.refl w.heap.size w)
 have H : (if a0_0.size + 1 ≤ 9223372036854775807 then (if (a0_0 ++ (⟨#[32]⟩ : ByteArray)).size + a0_1.size ≤ 9223372036854775807 then (if ((a0_0 ++ (⟨#[32]⟩ : ByteArray)) ++ a0_1).size + 1 ≤ 9223372036854775807 then (if (((a0_0 ++ (⟨#[32]⟩ : ByteArray)) ++ a0_1) ++ (⟨#[32]⟩ : ByteArray)).size + 8 ≤ 9223372036854775807 then (if ((((a0_0 ++ (⟨#[32]⟩ : ByteArray)) ++ a0_1) ++ (⟨#[32]⟩ : ByteArray)) ++ (⟨#[72,84,84,80,47,49,46,49]⟩ : ByteArray)).size + 2 ≤ 9223372036854775807 then (if (((((a0_0 ++ (⟨#[32]⟩ : ByteArray)) ++ a0_1) ++ (⟨#[32]⟩ : ByteArray)) ++ (⟨#[72,84,84,80,47,49,46,49]⟩ : ByteArray)) ++ (⟨#[13,10]⟩ : ByteArray)).size + 12 ≤ 9223372036854775807 then (if ((((((a0_0 ++ (⟨#[32]⟩ : ByteArray)) ++ a0_1) ++ (⟨#[32]⟩ : ByteArray)) ++ (⟨#[72,84,84,80,47,49,46,49]⟩ : ByteArray)) ++ (⟨#[13,10]⟩ : ByteArray)) ++ (⟨#[72,111,115,116,58,32,112,111,114,116,97,108]⟩ : ByteArray)).size + 2 ≤ 9223372036854775807 then (if (((((((a0_0 ++ (⟨#[32]⟩ : ByteArray)) ++ a0_1) ++ (⟨#[32]⟩ : ByteArray)) ++ (⟨#[72,84,84,80,47,49,46,49]⟩ : ByteArray)) ++ (⟨#[13,10]⟩ : ByteArray)) ++ (⟨#[72,111,115,116,58,32,112,111,114,116,97,108]⟩ : ByteArray)) ++ (⟨#[13,10]⟩ : ByteArray)).size + 16 ≤ 9223372036854775807 then ((strconv_Itoa_58.f (a0_2.size : Int)).bind fun t148 => (if ((((((((a0_0 ++ (⟨#[32]⟩ : ByteArray)) ++ a0_1) ++ (⟨#[32]⟩ : ByteArray)) ++ (⟨#[72,84,84,80,47,49,46,49]⟩ : ByteArray)) ++ (⟨#[13,10]⟩ : ByteArray)) ++ (⟨#[72,111,115,116,58,32,112,111,114,116,97,108]⟩ : ByteArray)) ++ (⟨#[13,10]⟩ : ByteArray)) ++ (⟨#[67,111,110,116,101,110,116,45,76,101,110,103,116,104,58,32]⟩ : ByteArray)).size + t148.size ≤ 9223372036854775807 then (if (((((((((a0_0 ++ (⟨#[32]⟩ : ByteArray)) ++ a0_1) ++ (⟨#[32]⟩ : ByteArray)) ++ (⟨#[72,84,84,80,47,49,46,49]⟩ : ByteArray)) ++ (⟨#[13,10]⟩ : ByteArray)) ++ (⟨#[72,111,115,116,58,32,112,111,114,116,97,108]⟩ : ByteArray)) ++ (⟨#[13,10]⟩ : ByteArray)) ++ (⟨#[67,111,110,116,101,110,116,45,76,101,110,103,116,104,58,32]⟩ : ByteArray)) ++ t148).size + 4 ≤ 9223372036854775807 then (if ((((((((((a0_0 ++ (⟨#[32]⟩ : ByteArray)) ++ a0_1) ++ (⟨#[32]⟩ : ByteArray)) ++ (⟨#[72,84,84,80,47,49,46,49]⟩ : ByteArray)) ++ (⟨#[13,10]⟩ : ByteArray)) ++ (⟨#[72,111,115,116,58,32,112,111,114,116,97,108]⟩ : ByteArray)) ++ (⟨#[13,10]⟩ : ByteArray)) ++ (⟨#[67,111,110,116,101,110,116,45,76,101,110,103,116,104,58,32]⟩ : ByteArray)) ++ t148) ++ (⟨#[13,10,13,10]⟩ : ByteArray)).size + a0_2.size ≤ 9223372036854775807 then (some (((((((((((a0_0 ++ (⟨#[32]⟩ : ByteArray)) ++ a0_1) ++ (⟨#[32]⟩ : ByteArray)) ++ (⟨#[72,84,84,80,47,49,46,49]⟩ : ByteArray)) ++ (⟨#[13,10]⟩ : ByteArray)) ++ (⟨#[72,111,115,116,58,32,112,111,114,116,97,108]⟩ : ByteArray)) ++ (⟨#[13,10]⟩ : ByteArray)) ++ (⟨#[67,111,110,116,101,110,116,45,76,101,110,103,116,104,58,32]⟩ : ByteArray)) ++ t148) ++ (⟨#[13,10,13,10]⟩ : ByteArray)) ++ a0_2)) else (none)) else (none)) else (none))) else (none)) else (none)) else (none)) else (none)) else (none)) else (none)) else (none)) else (none)) = some r:=h
 clear h
 by_cases c2 : a0_0.size + 1 ≤ 9223372036854775807
 ·rw [if_pos c2] at H
  have c2b0:=eq_true c2
  have c2b1 : decide (a0_0.size + 1 ≤ 9223372036854775807) = true:=decide_eq_true c2
  try have c2b2 : (9223372036854775807 < a0_0.size + 1) = False:=eq_false (Nat.not_lt.2 c2)
  by_cases c3 : (a0_0 ++ (⟨#[32]⟩ : ByteArray)).size + a0_1.size ≤ 9223372036854775807
  ·rw [if_pos c3] at H
   have c3b0:=eq_true c3
   have c3b1 : decide ((a0_0 ++ (⟨#[32]⟩ : ByteArray)).size + a0_1.size ≤ 9223372036854775807) = true:=decide_eq_true c3
   try have c3b2 : (9223372036854775807 < (a0_0 ++ (⟨#[32]⟩ : ByteArray)).size + a0_1.size) = False:=eq_false (Nat.not_lt.2 c3)
   try have c3b3 : (9223372036854775807 < a0_0.size + 1 + a0_1.size) = False:=by rw [← show (a0_0 ++ (⟨#[32]⟩ : ByteArray)).size = a0_0.size + 1 from by (simp only [ByteArray.size_append];rfl)];exact c3b2
   by_cases c4 : ((a0_0 ++ (⟨#[32]⟩ : ByteArray)) ++ a0_1).size + 1 ≤ 9223372036854775807
   ·rw [if_pos c4] at H
    have c4b0:=eq_true c4
    have c4b1 : decide (((a0_0 ++ (⟨#[32]⟩ : ByteArray)) ++ a0_1).size + 1 ≤ 9223372036854775807) = true:=decide_eq_true c4
    try have c4b2 : (9223372036854775807 < ((a0_0 ++ (⟨#[32]⟩ : ByteArray)) ++ a0_1).size + 1) = False:=eq_false (Nat.not_lt.2 c4)
    try have c4b3 : (9223372036854775807 < a0_0.size + 1 + a0_1.size + 1) = False:=by rw [← show ((a0_0 ++ (⟨#[32]⟩ : ByteArray)) ++ a0_1).size = a0_0.size + 1 + a0_1.size from by (simp only [ByteArray.size_append];rfl)];exact c4b2
    by_cases c5 : (((a0_0 ++ (⟨#[32]⟩ : ByteArray)) ++ a0_1) ++ (⟨#[32]⟩ : ByteArray)).size + 8 ≤ 9223372036854775807
    ·rw [if_pos c5] at H
     have c5b0:=eq_true c5
     have c5b1 : decide ((((a0_0 ++ (⟨#[32]⟩ : ByteArray)) ++ a0_1) ++ (⟨#[32]⟩ : ByteArray)).size + 8 ≤ 9223372036854775807) = true:=decide_eq_true c5
     try have c5b2 : (9223372036854775807 < (((a0_0 ++ (⟨#[32]⟩ : ByteArray)) ++ a0_1) ++ (⟨#[32]⟩ : ByteArray)).size + 8) = False:=eq_false (Nat.not_lt.2 c5)
     try have c5b3 : (9223372036854775807 < a0_0.size + 1 + a0_1.size + 1 + 8) = False:=by rw [← show (((a0_0 ++ (⟨#[32]⟩ : ByteArray)) ++ a0_1) ++ (⟨#[32]⟩ : ByteArray)).size = a0_0.size + 1 + a0_1.size + 1 from by (simp only [ByteArray.size_append];rfl)];exact c5b2
     by_cases c6 : ((((a0_0 ++ (⟨#[32]⟩ : ByteArray)) ++ a0_1) ++ (⟨#[32]⟩ : ByteArray)) ++ (⟨#[72,84,84,80,47,49,46,49]⟩ : ByteArray)).size + 2 ≤ 9223372036854775807
     ·rw [if_pos c6] at H
      have c6b0:=eq_true c6
      have c6b1 : decide (((((a0_0 ++ (⟨#[32]⟩ : ByteArray)) ++ a0_1) ++ (⟨#[32]⟩ : ByteArray)) ++ (⟨#[72,84,84,80,47,49,46,49]⟩ : ByteArray)).size + 2 ≤ 9223372036854775807) = true:=decide_eq_true c6
      try have c6b2 : (9223372036854775807 < ((((a0_0 ++ (⟨#[32]⟩ : ByteArray)) ++ a0_1) ++ (⟨#[32]⟩ : ByteArray)) ++ (⟨#[72,84,84,80,47,49,46,49]⟩ : ByteArray)).size + 2) = False:=eq_false (Nat.not_lt.2 c6)
      try have c6b3 : (9223372036854775807 < a0_0.size + 1 + a0_1.size + 1 + 8 + 2) = False:=by rw [← show ((((a0_0 ++ (⟨#[32]⟩ : ByteArray)) ++ a0_1) ++ (⟨#[32]⟩ : ByteArray)) ++ (⟨#[72,84,84,80,47,49,46,49]⟩ : ByteArray)).size = a0_0.size + 1 + a0_1.size + 1 + 8 from by (simp only [ByteArray.size_append];rfl)];exact c6b2
      by_cases c7 : (((((a0_0 ++ (⟨#[32]⟩ : ByteArray)) ++ a0_1) ++ (⟨#[32]⟩ : ByteArray)) ++ (⟨#[72,84,84,80,47,49,46,49]⟩ : ByteArray)) ++ (⟨#[13,10]⟩ : ByteArray)).size + 12 ≤ 9223372036854775807
      ·rw [if_pos c7] at H
       have c7b0:=eq_true c7
       have c7b1 : decide ((((((a0_0 ++ (⟨#[32]⟩ : ByteArray)) ++ a0_1) ++ (⟨#[32]⟩ : ByteArray)) ++ (⟨#[72,84,84,80,47,49,46,49]⟩ : ByteArray)) ++ (⟨#[13,10]⟩ : ByteArray)).size + 12 ≤ 9223372036854775807) = true:=decide_eq_true c7
       try have c7b2 : (9223372036854775807 < (((((a0_0 ++ (⟨#[32]⟩ : ByteArray)) ++ a0_1) ++ (⟨#[32]⟩ : ByteArray)) ++ (⟨#[72,84,84,80,47,49,46,49]⟩ : ByteArray)) ++ (⟨#[13,10]⟩ : ByteArray)).size + 12) = False:=eq_false (Nat.not_lt.2 c7)
       try have c7b3 : (9223372036854775807 < a0_0.size + 1 + a0_1.size + 1 + 8 + 2 + 12) = False:=by rw [← show (((((a0_0 ++ (⟨#[32]⟩ : ByteArray)) ++ a0_1) ++ (⟨#[32]⟩ : ByteArray)) ++ (⟨#[72,84,84,80,47,49,46,49]⟩ : ByteArray)) ++ (⟨#[13,10]⟩ : ByteArray)).size = a0_0.size + 1 + a0_1.size + 1 + 8 + 2 from by (simp only [ByteArray.size_append];rfl)];exact c7b2
       by_cases c8 : ((((((a0_0 ++ (⟨#[32]⟩ : ByteArray)) ++ a0_1) ++ (⟨#[32]⟩ : ByteArray)) ++ (⟨#[72,84,84,80,47,49,46,49]⟩ : ByteArray)) ++ (⟨#[13,10]⟩ : ByteArray)) ++ (⟨#[72,111,115,116,58,32,112,111,114,116,97,108]⟩ : ByteArray)).size + 2 ≤ 9223372036854775807
       ·rw [if_pos c8] at H
        have c8b0:=eq_true c8
        have c8b1 : decide (((((((a0_0 ++ (⟨#[32]⟩ : ByteArray)) ++ a0_1) ++ (⟨#[32]⟩ : ByteArray)) ++ (⟨#[72,84,84,80,47,49,46,49]⟩ : ByteArray)) ++ (⟨#[13,10]⟩ : ByteArray)) ++ (⟨#[72,111,115,116,58,32,112,111,114,116,97,108]⟩ : ByteArray)).size + 2 ≤ 9223372036854775807) = true:=decide_eq_true c8
        try have c8b2 : (9223372036854775807 < ((((((a0_0 ++ (⟨#[32]⟩ : ByteArray)) ++ a0_1) ++ (⟨#[32]⟩ : ByteArray)) ++ (⟨#[72,84,84,80,47,49,46,49]⟩ : ByteArray)) ++ (⟨#[13,10]⟩ : ByteArray)) ++ (⟨#[72,111,115,116,58,32,112,111,114,116,97,108]⟩ : ByteArray)).size + 2) = False:=eq_false (Nat.not_lt.2 c8)
        try have c8b3 : (9223372036854775807 < a0_0.size + 1 + a0_1.size + 1 + 8 + 2 + 12 + 2) = False:=by rw [← show ((((((a0_0 ++ (⟨#[32]⟩ : ByteArray)) ++ a0_1) ++ (⟨#[32]⟩ : ByteArray)) ++ (⟨#[72,84,84,80,47,49,46,49]⟩ : ByteArray)) ++ (⟨#[13,10]⟩ : ByteArray)) ++ (⟨#[72,111,115,116,58,32,112,111,114,116,97,108]⟩ : ByteArray)).size = a0_0.size + 1 + a0_1.size + 1 + 8 + 2 + 12 from by (simp only [ByteArray.size_append];rfl)];exact c8b2
        by_cases c9 : (((((((a0_0 ++ (⟨#[32]⟩ : ByteArray)) ++ a0_1) ++ (⟨#[32]⟩ : ByteArray)) ++ (⟨#[72,84,84,80,47,49,46,49]⟩ : ByteArray)) ++ (⟨#[13,10]⟩ : ByteArray)) ++ (⟨#[72,111,115,116,58,32,112,111,114,116,97,108]⟩ : ByteArray)) ++ (⟨#[13,10]⟩ : ByteArray)).size + 16 ≤ 9223372036854775807
        ·rw [if_pos c9] at H
         have c9b0:=eq_true c9
         have c9b1 : decide ((((((((a0_0 ++ (⟨#[32]⟩ : ByteArray)) ++ a0_1) ++ (⟨#[32]⟩ : ByteArray)) ++ (⟨#[72,84,84,80,47,49,46,49]⟩ : ByteArray)) ++ (⟨#[13,10]⟩ : ByteArray)) ++ (⟨#[72,111,115,116,58,32,112,111,114,116,97,108]⟩ : ByteArray)) ++ (⟨#[13,10]⟩ : ByteArray)).size + 16 ≤ 9223372036854775807) = true:=decide_eq_true c9
         try have c9b2 : (9223372036854775807 < (((((((a0_0 ++ (⟨#[32]⟩ : ByteArray)) ++ a0_1) ++ (⟨#[32]⟩ : ByteArray)) ++ (⟨#[72,84,84,80,47,49,46,49]⟩ : ByteArray)) ++ (⟨#[13,10]⟩ : ByteArray)) ++ (⟨#[72,111,115,116,58,32,112,111,114,116,97,108]⟩ : ByteArray)) ++ (⟨#[13,10]⟩ : ByteArray)).size + 16) = False:=eq_false (Nat.not_lt.2 c9)
         try have c9b3 : (9223372036854775807 < a0_0.size + 1 + a0_1.size + 1 + 8 + 2 + 12 + 2 + 16) = False:=by rw [← show (((((((a0_0 ++ (⟨#[32]⟩ : ByteArray)) ++ a0_1) ++ (⟨#[32]⟩ : ByteArray)) ++ (⟨#[72,84,84,80,47,49,46,49]⟩ : ByteArray)) ++ (⟨#[13,10]⟩ : ByteArray)) ++ (⟨#[72,111,115,116,58,32,112,111,114,116,97,108]⟩ : ByteArray)) ++ (⟨#[13,10]⟩ : ByteArray)).size = a0_0.size + 1 + a0_1.size + 1 + 8 + 2 + 12 + 2 from by (simp only [ByteArray.size_append];rfl)];exact c9b2
         replace H:=Option.bind_eq_some_iff.mp H
         obtain ⟨t148,A100,H⟩:=H
         replace H : (if ((((((((a0_0 ++ (⟨#[32]⟩ : ByteArray)) ++ a0_1) ++ (⟨#[32]⟩ : ByteArray)) ++ (⟨#[72,84,84,80,47,49,46,49]⟩ : ByteArray)) ++ (⟨#[13,10]⟩ : ByteArray)) ++ (⟨#[72,111,115,116,58,32,112,111,114,116,97,108]⟩ : ByteArray)) ++ (⟨#[13,10]⟩ : ByteArray)) ++ (⟨#[67,111,110,116,101,110,116,45,76,101,110,103,116,104,58,32]⟩ : ByteArray)).size + t148.size ≤ 9223372036854775807 then (if (((((((((a0_0 ++ (⟨#[32]⟩ : ByteArray)) ++ a0_1) ++ (⟨#[32]⟩ : ByteArray)) ++ (⟨#[72,84,84,80,47,49,46,49]⟩ : ByteArray)) ++ (⟨#[13,10]⟩ : ByteArray)) ++ (⟨#[72,111,115,116,58,32,112,111,114,116,97,108]⟩ : ByteArray)) ++ (⟨#[13,10]⟩ : ByteArray)) ++ (⟨#[67,111,110,116,101,110,116,45,76,101,110,103,116,104,58,32]⟩ : ByteArray)) ++ t148).size + 4 ≤ 9223372036854775807 then (if ((((((((((a0_0 ++ (⟨#[32]⟩ : ByteArray)) ++ a0_1) ++ (⟨#[32]⟩ : ByteArray)) ++ (⟨#[72,84,84,80,47,49,46,49]⟩ : ByteArray)) ++ (⟨#[13,10]⟩ : ByteArray)) ++ (⟨#[72,111,115,116,58,32,112,111,114,116,97,108]⟩ : ByteArray)) ++ (⟨#[13,10]⟩ : ByteArray)) ++ (⟨#[67,111,110,116,101,110,116,45,76,101,110,103,116,104,58,32]⟩ : ByteArray)) ++ t148) ++ (⟨#[13,10,13,10]⟩ : ByteArray)).size + a0_2.size ≤ 9223372036854775807 then (some (((((((((((a0_0 ++ (⟨#[32]⟩ : ByteArray)) ++ a0_1) ++ (⟨#[32]⟩ : ByteArray)) ++ (⟨#[72,84,84,80,47,49,46,49]⟩ : ByteArray)) ++ (⟨#[13,10]⟩ : ByteArray)) ++ (⟨#[72,111,115,116,58,32,112,111,114,116,97,108]⟩ : ByteArray)) ++ (⟨#[13,10]⟩ : ByteArray)) ++ (⟨#[67,111,110,116,101,110,116,45,76,101,110,103,116,104,58,32]⟩ : ByteArray)) ++ t148) ++ (⟨#[13,10,13,10]⟩ : ByteArray)) ++ a0_2)) else (none)) else (none)) else (none)) = some r:=H
         have A10:=aMk A100
         clear A100
         by_cases c11 : ((((((((a0_0 ++ (⟨#[32]⟩ : ByteArray)) ++ a0_1) ++ (⟨#[32]⟩ : ByteArray)) ++ (⟨#[72,84,84,80,47,49,46,49]⟩ : ByteArray)) ++ (⟨#[13,10]⟩ : ByteArray)) ++ (⟨#[72,111,115,116,58,32,112,111,114,116,97,108]⟩ : ByteArray)) ++ (⟨#[13,10]⟩ : ByteArray)) ++ (⟨#[67,111,110,116,101,110,116,45,76,101,110,103,116,104,58,32]⟩ : ByteArray)).size + t148.size ≤ 9223372036854775807
         ·rw [if_pos c11] at H
          have c11b0:=eq_true c11
          have c11b1 : decide (((((((((a0_0 ++ (⟨#[32]⟩ : ByteArray)) ++ a0_1) ++ (⟨#[32]⟩ : ByteArray)) ++ (⟨#[72,84,84,80,47,49,46,49]⟩ : ByteArray)) ++ (⟨#[13,10]⟩ : ByteArray)) ++ (⟨#[72,111,115,116,58,32,112,111,114,116,97,108]⟩ : ByteArray)) ++ (⟨#[13,10]⟩ : ByteArray)) ++ (⟨#[67,111,110,116,101,110,116,45,76,101,110,103,116,104,58,32]⟩ : ByteArray)).size + t148.size ≤ 9223372036854775807) = true:=decide_eq_true c11
          try have c11b2 : (9223372036854775807 < ((((((((a0_0 ++ (⟨#[32]⟩ : ByteArray)) ++ a0_1) ++ (⟨#[32]⟩ : ByteArray)) ++ (⟨#[72,84,84,80,47,49,46,49]⟩ : ByteArray)) ++ (⟨#[13,10]⟩ : ByteArray)) ++ (⟨#[72,111,115,116,58,32,112,111,114,116,97,108]⟩ : ByteArray)) ++ (⟨#[13,10]⟩ : ByteArray)) ++ (⟨#[67,111,110,116,101,110,116,45,76,101,110,103,116,104,58,32]⟩ : ByteArray)).size + t148.size) = False:=eq_false (Nat.not_lt.2 c11)
          try have c11b3 : (9223372036854775807 < a0_0.size + 1 + a0_1.size + 1 + 8 + 2 + 12 + 2 + 16 + t148.size) = False:=by rw [← show ((((((((a0_0 ++ (⟨#[32]⟩ : ByteArray)) ++ a0_1) ++ (⟨#[32]⟩ : ByteArray)) ++ (⟨#[72,84,84,80,47,49,46,49]⟩ : ByteArray)) ++ (⟨#[13,10]⟩ : ByteArray)) ++ (⟨#[72,111,115,116,58,32,112,111,114,116,97,108]⟩ : ByteArray)) ++ (⟨#[13,10]⟩ : ByteArray)) ++ (⟨#[67,111,110,116,101,110,116,45,76,101,110,103,116,104,58,32]⟩ : ByteArray)).size = a0_0.size + 1 + a0_1.size + 1 + 8 + 2 + 12 + 2 + 16 from by (simp only [ByteArray.size_append];rfl)];exact c11b2
          by_cases c12 : (((((((((a0_0 ++ (⟨#[32]⟩ : ByteArray)) ++ a0_1) ++ (⟨#[32]⟩ : ByteArray)) ++ (⟨#[72,84,84,80,47,49,46,49]⟩ : ByteArray)) ++ (⟨#[13,10]⟩ : ByteArray)) ++ (⟨#[72,111,115,116,58,32,112,111,114,116,97,108]⟩ : ByteArray)) ++ (⟨#[13,10]⟩ : ByteArray)) ++ (⟨#[67,111,110,116,101,110,116,45,76,101,110,103,116,104,58,32]⟩ : ByteArray)) ++ t148).size + 4 ≤ 9223372036854775807
          ·rw [if_pos c12] at H
           have c12b0:=eq_true c12
           have c12b1 : decide ((((((((((a0_0 ++ (⟨#[32]⟩ : ByteArray)) ++ a0_1) ++ (⟨#[32]⟩ : ByteArray)) ++ (⟨#[72,84,84,80,47,49,46,49]⟩ : ByteArray)) ++ (⟨#[13,10]⟩ : ByteArray)) ++ (⟨#[72,111,115,116,58,32,112,111,114,116,97,108]⟩ : ByteArray)) ++ (⟨#[13,10]⟩ : ByteArray)) ++ (⟨#[67,111,110,116,101,110,116,45,76,101,110,103,116,104,58,32]⟩ : ByteArray)) ++ t148).size + 4 ≤ 9223372036854775807) = true:=decide_eq_true c12
           try have c12b2 : (9223372036854775807 < (((((((((a0_0 ++ (⟨#[32]⟩ : ByteArray)) ++ a0_1) ++ (⟨#[32]⟩ : ByteArray)) ++ (⟨#[72,84,84,80,47,49,46,49]⟩ : ByteArray)) ++ (⟨#[13,10]⟩ : ByteArray)) ++ (⟨#[72,111,115,116,58,32,112,111,114,116,97,108]⟩ : ByteArray)) ++ (⟨#[13,10]⟩ : ByteArray)) ++ (⟨#[67,111,110,116,101,110,116,45,76,101,110,103,116,104,58,32]⟩ : ByteArray)) ++ t148).size + 4) = False:=eq_false (Nat.not_lt.2 c12)
           try have c12b3 : (9223372036854775807 < a0_0.size + 1 + a0_1.size + 1 + 8 + 2 + 12 + 2 + 16 + t148.size + 4) = False:=by rw [← show (((((((((a0_0 ++ (⟨#[32]⟩ : ByteArray)) ++ a0_1) ++ (⟨#[32]⟩ : ByteArray)) ++ (⟨#[72,84,84,80,47,49,46,49]⟩ : ByteArray)) ++ (⟨#[13,10]⟩ : ByteArray)) ++ (⟨#[72,111,115,116,58,32,112,111,114,116,97,108]⟩ : ByteArray)) ++ (⟨#[13,10]⟩ : ByteArray)) ++ (⟨#[67,111,110,116,101,110,116,45,76,101,110,103,116,104,58,32]⟩ : ByteArray)) ++ t148).size = a0_0.size + 1 + a0_1.size + 1 + 8 + 2 + 12 + 2 + 16 + t148.size from by (simp only [ByteArray.size_append];rfl)];exact c12b2
           by_cases c13 : ((((((((((a0_0 ++ (⟨#[32]⟩ : ByteArray)) ++ a0_1) ++ (⟨#[32]⟩ : ByteArray)) ++ (⟨#[72,84,84,80,47,49,46,49]⟩ : ByteArray)) ++ (⟨#[13,10]⟩ : ByteArray)) ++ (⟨#[72,111,115,116,58,32,112,111,114,116,97,108]⟩ : ByteArray)) ++ (⟨#[13,10]⟩ : ByteArray)) ++ (⟨#[67,111,110,116,101,110,116,45,76,101,110,103,116,104,58,32]⟩ : ByteArray)) ++ t148) ++ (⟨#[13,10,13,10]⟩ : ByteArray)).size + a0_2.size ≤ 9223372036854775807
           ·rw [if_pos c13] at H
            have c13b0:=eq_true c13
            have c13b1 : decide (((((((((((a0_0 ++ (⟨#[32]⟩ : ByteArray)) ++ a0_1) ++ (⟨#[32]⟩ : ByteArray)) ++ (⟨#[72,84,84,80,47,49,46,49]⟩ : ByteArray)) ++ (⟨#[13,10]⟩ : ByteArray)) ++ (⟨#[72,111,115,116,58,32,112,111,114,116,97,108]⟩ : ByteArray)) ++ (⟨#[13,10]⟩ : ByteArray)) ++ (⟨#[67,111,110,116,101,110,116,45,76,101,110,103,116,104,58,32]⟩ : ByteArray)) ++ t148) ++ (⟨#[13,10,13,10]⟩ : ByteArray)).size + a0_2.size ≤ 9223372036854775807) = true:=decide_eq_true c13
            try have c13b2 : (9223372036854775807 < ((((((((((a0_0 ++ (⟨#[32]⟩ : ByteArray)) ++ a0_1) ++ (⟨#[32]⟩ : ByteArray)) ++ (⟨#[72,84,84,80,47,49,46,49]⟩ : ByteArray)) ++ (⟨#[13,10]⟩ : ByteArray)) ++ (⟨#[72,111,115,116,58,32,112,111,114,116,97,108]⟩ : ByteArray)) ++ (⟨#[13,10]⟩ : ByteArray)) ++ (⟨#[67,111,110,116,101,110,116,45,76,101,110,103,116,104,58,32]⟩ : ByteArray)) ++ t148) ++ (⟨#[13,10,13,10]⟩ : ByteArray)).size + a0_2.size) = False:=eq_false (Nat.not_lt.2 c13)
            try have c13b3 : (9223372036854775807 < a0_0.size + 1 + a0_1.size + 1 + 8 + 2 + 12 + 2 + 16 + t148.size + 4 + a0_2.size) = False:=by rw [← show ((((((((((a0_0 ++ (⟨#[32]⟩ : ByteArray)) ++ a0_1) ++ (⟨#[32]⟩ : ByteArray)) ++ (⟨#[72,84,84,80,47,49,46,49]⟩ : ByteArray)) ++ (⟨#[13,10]⟩ : ByteArray)) ++ (⟨#[72,111,115,116,58,32,112,111,114,116,97,108]⟩ : ByteArray)) ++ (⟨#[13,10]⟩ : ByteArray)) ++ (⟨#[67,111,110,116,101,110,116,45,76,101,110,103,116,104,58,32]⟩ : ByteArray)) ++ t148) ++ (⟨#[13,10,13,10]⟩ : ByteArray)).size = a0_0.size + 1 + a0_1.size + 1 + 8 + 2 + 12 + 2 + 16 + t148.size + 4 from by (simp only [ByteArray.size_append];rfl)];exact c13b2
            obtain rfl:=Option.some.inj H
            go_enter Tryd.func36,Tryd.ntmps36
            try go_wp2_with (first|((with_reducible refine gate_dst (N:=1) rfl ?_);refine box_event ?hg (N:=1) ?hd (cs:=#[.string a0_0,.string a0_1,.string a0_2]) (t:=27) ?hr ?_;(case hd => rfl);(case hg => rfl);(case hr => first|(go_simp;done)|(go_simp;rfl));intro gb147 hg w14 hbox hb;have n0_:=aMk (below_step (by repeat first|exact HB.out|apply bwA|apply bwN|apply bw1) hb);have n1_:=aMk (hbox);have n2_:=aMk ((by rw [hg];exact (below_size (by repeat first|exact HB.out|apply bwA|apply bwN|apply bw1)) : w.heap.size ≤ gb147));have n3_:=aMk ((by rw [hg];exact (below_size (by repeat first|exact HB.out|apply bwA|apply bwN|apply bw1)) : w.heap.size ≤ gb147));clear HB;have HB:=n0_;have BK147:=n1_;have GW147:=n2_;have GE147:=n3_;clear n0_ n1_ n2_ n3_;clear hb hbox hg))
            have n0_:=aMk (bDr BK147.out)
            have n1_:=aMk (bw1 HB.out)
            clear BK147
            clear HB
            have BK147:=n0_
            have HB:=n1_
            clear n0_ n1_
            refine start_ (n:=22) (S:=fun w' => w'.cell? ⟨gb147,0,none⟩ = some (.string a0_0) ∧ w'.cell? ⟨gb147,1,none⟩ = some (.string a0_1) ∧ w'.cell? ⟨gb147,2,none⟩ = some (.string a0_2)) (ds:=[]) #[false,false,false,false,false,false,false,false,false,false,false,false,false,false,false,false,false,false,false,false,false,false] (by kernel_rfl) rfl rfl ⟨(bCe BK147.out 0).trans rfl,(bCe BK147.out 1).trans rfl,(bCe BK147.out 2).trans rfl⟩ (fun hHeld => ?_);refine with_tabW impl_requestText.tab1 impl_requestText.bits1 (fun HT_ HW_ => ?_)
            generalize w14.drew = w15 at BK147 HB hHeld ⊢
            refine pure_ (i:=0) (N:=some 3) (v:=?_) (a':=?_) #[true,false,false,false,false,false,false,false,false,false,false,false,false,false,false,false,false,false,false,false,false,false] rfl rfl (any_of HT_.out (by kernel_rfl)) (fun _ _ _ h => h) (Or.inl ⟨by rfl,?_⟩) ?_ ?_
            rotate_left
            ·intro w'
             go_simp
             with_reducible rfl
            rotate_left
            ·simp only [Act.put,List.setIfInBounds_toArray,List.set_cons_zero,List.set_cons_succ,i64_w,i32_w]
             rfl
            refine pure_ (i:=3) (N:=some 6) (v:=?_) (a':=?_) #[true,false,false,true,false,false,false,false,false,false,false,false,false,false,false,false,false,false,false,false,false,false] rfl rfl (any_of HT_.out (by kernel_rfl)) (fun _ _ _ h => h) (Or.inl ⟨by rfl,?_⟩) ?_ ?_
            rotate_left
            ·intro w'
             go_simp
             with_reducible rfl
            rotate_left
            ·simp only [Act.put,List.setIfInBounds_toArray,List.set_cons_zero,List.set_cons_succ,i64_w,i32_w]
             rfl
            refine pure_ (i:=12) (N:=some 15) (v:=?_) (a':=?_) #[true,false,false,true,false,false,false,false,false,false,false,false,true,false,false,false,false,false,false,false,false,false] rfl rfl (any_of HT_.out (by kernel_rfl)) (fun _ _ _ h => h) (Or.inl ⟨by rfl,?_⟩) ?_ ?_
            rotate_left
            ·intro w'
             go_simp
             with_reducible rfl
            rotate_left
            ·simp only [Act.put,List.setIfInBounds_toArray,List.set_cons_zero,List.set_cons_succ,i64_w,i32_w]
             rfl
            refine pure_ (i:=18) (N:=some 21) (v:=?_) (a':=?_) #[true,false,false,true,false,false,false,false,false,false,false,false,true,false,false,false,false,false,true,false,false,false] rfl rfl (any_of HT_.out (by kernel_rfl)) (fun _ _ _ h => h) (Or.inl ⟨by rfl,?_⟩) ?_ ?_
            rotate_left
            ·intro w'
             go_simp
             with_reducible rfl
            rotate_left
            ·simp only [Act.put,List.setIfInBounds_toArray,List.set_cons_zero,List.set_cons_succ,i64_w,i32_w]
             rfl
            refine take_ (i:=1) (N:=some 4) (v:=?_) (a':=?_) #[true,true,false,true,false,false,false,false,false,false,false,false,true,false,false,false,false,false,true,false,false,false] rfl rfl (take_ofW HT_.out HW_.out (by kernel_rfl)) (fun _ _ _ h => h) (Or.inl ⟨by rfl,?_⟩) hHeld ?_ ?_
            rotate_left
            ·rintro w' ⟨s0,s1,s2⟩
             go_simp
             with_reducible rfl
            rotate_left
            ·simp only [Act.put,List.setIfInBounds_toArray,List.set_cons_zero,List.set_cons_succ,i64_w,i32_w]
             rfl
            refine pure_ (i:=2) (N:=some 5) (v:=?_) (a':=?_) #[true,true,true,true,false,false,false,false,false,false,false,false,true,false,false,false,false,false,true,false,false,false] rfl rfl (any_of HT_.out (by kernel_rfl)) (fun _ _ _ h => h) (Or.inl ⟨by rfl,?_⟩) ?_ ?_
            rotate_left
            ·intro w'
             go_simp
             with_reducible rfl
            rotate_left
            ·simp only [Act.put,List.setIfInBounds_toArray,List.set_cons_zero,List.set_cons_succ,i64_w,i32_w]
             rfl
            refine take_ (i:=4) (N:=some 7) (v:=?_) (a':=?_) #[true,true,true,true,true,false,false,false,false,false,false,false,true,false,false,false,false,false,true,false,false,false] rfl rfl (take_ofW HT_.out HW_.out (by kernel_rfl)) (fun _ _ _ h => h) (Or.inl ⟨by rfl,?_⟩) hHeld ?_ ?_
            rotate_left
            ·rintro w' ⟨s0,s1,s2⟩
             go_simp
             with_reducible rfl
            rotate_left
            ·simp only [Act.put,List.setIfInBounds_toArray,List.set_cons_zero,List.set_cons_succ,i64_w,i32_w]
             rfl
            refine pure_ (i:=5) (N:=some 8) (v:=?_) (a':=?_) #[true,true,true,true,true,true,false,false,false,false,false,false,true,false,false,false,false,false,true,false,false,false] rfl rfl (any_of HT_.out (by kernel_rfl)) (fun _ _ _ h => h) (Or.inl ⟨by rfl,?_⟩) ?_ ?_
            rotate_left
            ·intro w'
             go_simp
             with_reducible rfl
            rotate_left
            ·simp only [Act.put,List.setIfInBounds_toArray,List.set_cons_zero,List.set_cons_succ,i64_w,i32_w]
             rfl
            refine pure_ (i:=6) (N:=some 9) (v:=?_) (a':=?_) #[true,true,true,true,true,true,true,false,false,false,false,false,true,false,false,false,false,false,true,false,false,false] rfl rfl (any_of HT_.out (by kernel_rfl)) (fun _ _ _ h => h) (Or.inl ⟨by rfl,?_⟩) ?_ ?_
            rotate_left
            ·intro w'
             go_simp
             with_reducible rfl
            rotate_left
            ·simp only [Act.put,List.setIfInBounds_toArray,List.set_cons_zero,List.set_cons_succ,i64_w,i32_w]
             rfl
            refine pure_ (i:=7) (N:=some 10) (v:=?_) (a':=?_) #[true,true,true,true,true,true,true,true,false,false,false,false,true,false,false,false,false,false,true,false,false,false] rfl rfl (any_of HT_.out (by kernel_rfl)) (fun _ _ _ h => h) (Or.inl ⟨by rfl,?_⟩) ?_ ?_
            rotate_left
            ·intro w'
             go_simp
             with_reducible rfl
            rotate_left
            ·simp only [Act.put,List.setIfInBounds_toArray,List.set_cons_zero,List.set_cons_succ,i64_w,i32_w]
             rfl
            refine pure_ (i:=8) (N:=some 11) (v:=?_) (a':=?_) #[true,true,true,true,true,true,true,true,true,false,false,false,true,false,false,false,false,false,true,false,false,false] rfl rfl (any_of HT_.out (by kernel_rfl)) (fun _ _ _ h => h) (Or.inl ⟨by rfl,?_⟩) ?_ ?_
            rotate_left
            ·intro w'
             go_simp
             with_reducible rfl
            rotate_left
            ·simp only [Act.put,List.setIfInBounds_toArray,List.set_cons_zero,List.set_cons_succ,i64_w,i32_w]
             rfl
            refine pure_ (i:=9) (N:=some 12) (v:=?_) (a':=?_) #[true,true,true,true,true,true,true,true,true,true,false,false,true,false,false,false,false,false,true,false,false,false] rfl rfl (any_of HT_.out (by kernel_rfl)) (fun _ _ _ h => h) (Or.inl ⟨by rfl,?_⟩) ?_ ?_
            rotate_left
            ·intro w'
             go_simp
             with_reducible rfl
            rotate_left
            ·simp only [Act.put,List.setIfInBounds_toArray,List.set_cons_zero,List.set_cons_succ,i64_w,i32_w]
             rfl
            refine pure_ (i:=10) (N:=some 13) (v:=?_) (a':=?_) #[true,true,true,true,true,true,true,true,true,true,true,false,true,false,false,false,false,false,true,false,false,false] rfl rfl (any_of HT_.out (by kernel_rfl)) (fun _ _ _ h => h) (Or.inl ⟨by rfl,?_⟩) ?_ ?_
            rotate_left
            ·intro w'
             go_simp
             with_reducible rfl
            rotate_left
            ·simp only [Act.put,List.setIfInBounds_toArray,List.set_cons_zero,List.set_cons_succ,i64_w,i32_w]
             rfl
            refine pure_ (i:=11) (N:=some 14) (v:=?_) (a':=?_) #[true,true,true,true,true,true,true,true,true,true,true,true,true,false,false,false,false,false,true,false,false,false] rfl rfl (any_of HT_.out (by kernel_rfl)) (fun _ _ _ h => h) (Or.inl ⟨by rfl,?_⟩) ?_ ?_
            rotate_left
            ·intro w'
             go_simp
             with_reducible rfl
            rotate_left
            ·simp only [Act.put,List.setIfInBounds_toArray,List.set_cons_zero,List.set_cons_succ,i64_w,i32_w]
             rfl
            refine take_ (i:=13) (N:=some 16) (v:=?_) (a':=?_) #[true,true,true,true,true,true,true,true,true,true,true,true,true,true,false,false,false,false,true,false,false,false] rfl rfl (take_ofW HT_.out HW_.out (by kernel_rfl)) (fun _ _ _ h => h) (Or.inl ⟨by rfl,?_⟩) hHeld ?_ ?_
            rotate_left
            ·rintro w' ⟨s0,s1,s2⟩
             go_simp
             with_reducible rfl
            rotate_left
            ·simp only [Act.put,List.setIfInBounds_toArray,List.set_cons_zero,List.set_cons_succ,i64_w,i32_w]
             rfl
            refine pure_ (i:=14) (N:=some 17) (v:=?_) (a':=?_) #[true,true,true,true,true,true,true,true,true,true,true,true,true,true,true,false,false,false,true,false,false,false] rfl rfl (any_of HT_.out (by kernel_rfl)) (fun _ _ _ h => h) (Or.inl ⟨by rfl,?_⟩) ?_ ?_
            rotate_left
            ·intro w'
             go_simp
             with_reducible rfl
            rotate_left
            ·simp only [Act.put,List.setIfInBounds_toArray,List.set_cons_zero,List.set_cons_succ,i64_w,i32_w]
             rfl
            refine take_ (i:=19) (N:=some 22) (v:=?_) (a':=?_) #[true,true,true,true,true,true,true,true,true,true,true,true,true,true,true,false,false,false,true,true,false,false] rfl rfl (take_ofW HT_.out HW_.out (by kernel_rfl)) (fun _ _ _ h => h) (Or.inl ⟨by rfl,?_⟩) hHeld ?_ ?_
            rotate_left
            ·rintro w' ⟨s0,s1,s2⟩
             go_simp
             with_reducible rfl
            rotate_left
            ·simp only [Act.put,List.setIfInBounds_toArray,List.set_cons_zero,List.set_cons_succ,i64_w,i32_w]
             rfl
            refine one_ (i:=15) (N:=some 18) #[true,true,true,true,true,true,true,true,true,true,true,true,true,true,true,true,false,false,true,true,false,false] rfl rfl (one_of HT_.out (by kernel_rfl)) (by decide) (fun K hK => ?_)
            refine goes_ Tryd.func58 (by kernel_rfl) rfl #[.int .i64 (a0_2.size : Int)] (by rfl) rfl rfl (by (try simp only [List.map_toArray,List.map_cons,List.map_nil]);first | done | rfl|(simp only [List.length_drop,List.length_take];rfl)) ?_
            with_reducible refine (strconv_Itoa_58.calls (a0_2.size : Int) t148 _ ?sideGp A10.out).mono ?_
            case sideGp => exact GLp_below HGp_.out (by repeat first|exact HB.out|apply bwA|apply bwN|apply bw1)
            rintro e w16 ⟨rfl,hb⟩
            refine ⟨_,rfl,?_⟩
            have n0_:=aMk (blk_below (g:=gb147) (o:=.cells #[.string a0_0,.string a0_1,.string a0_2] 27 (0,0)) (by (with_reducible repeat (first|refine bDn ?_ _|refine bDr ?_|refine bAl ?_ _));exact BK147.out) hb)
            have n1_:=aMk (below_step (by repeat (first|(with_reducible first|exact HB.out|apply bwA|apply bwN|apply bw1|refine below_set ?_ GE147.out)|exact HB.out)) hb)
            clear BK147
            clear HB
            have BK147:=n0_
            have HB:=n1_
            clear n0_ n1_
            (try clear hb)
            (try clear hb2)
            (try clear hk)
            (try clear hi)
            refine hK.out _ _ ⟨(bCe BK147.out 0).trans rfl,(bCe BK147.out 1).trans rfl,(bCe BK147.out 2).trans rfl⟩ (fun hHeld => ?_)
            clear hK K
            refine norm_ (a':=?_) ?_ ?_
            rotate_left
            ·show Act.put _ (some 18) _ = _
             simp only [Act.put,List.setIfInBounds_toArray,List.set_cons_zero,List.set_cons_succ,i64_w,i32_w]
             rfl
            refine pure_ (i:=16) (N:=some 19) (v:=?_) (a':=?_) #[true,true,true,true,true,true,true,true,true,true,true,true,true,true,true,true,true,false,true,true,false,false] rfl rfl (any_of HT_.out (by kernel_rfl)) (fun _ _ _ h => h) (Or.inl ⟨by rfl,?_⟩) ?_ ?_
            rotate_left
            ·intro w'
             go_simp
             with_reducible rfl
            rotate_left
            ·simp only [Act.put,List.setIfInBounds_toArray,List.set_cons_zero,List.set_cons_succ,i64_w,i32_w]
             rfl
            refine pure_ (i:=17) (N:=some 20) (v:=?_) (a':=?_) #[true,true,true,true,true,true,true,true,true,true,true,true,true,true,true,true,true,true,true,true,false,false] rfl rfl (any_of HT_.out (by kernel_rfl)) (fun _ _ _ h => h) (Or.inl ⟨by rfl,?_⟩) ?_ ?_
            rotate_left
            ·intro w'
             go_simp
             with_reducible rfl
            rotate_left
            ·simp only [Act.put,List.setIfInBounds_toArray,List.set_cons_zero,List.set_cons_succ,i64_w,i32_w]
             rfl
            refine pure_ (i:=20) (N:=some 23) (v:=?_) (a':=?_) #[true,true,true,true,true,true,true,true,true,true,true,true,true,true,true,true,true,true,true,true,true,false] rfl rfl (any_of HT_.out (by kernel_rfl)) (fun _ _ _ h => h) (Or.inl ⟨by rfl,?_⟩) ?_ ?_
            rotate_left
            ·intro w'
             go_simp
             with_reducible rfl
            rotate_left
            ·simp only [Act.put,List.setIfInBounds_toArray,List.set_cons_zero,List.set_cons_succ,i64_w,i32_w]
             rfl
            refine pure_ (i:=21) (N:=some 2) (v:=?_) (a':=?_) #[true,true,true,true,true,true,true,true,true,true,true,true,true,true,true,true,true,true,true,true,true,true] rfl rfl (any_of HT_.out (by kernel_rfl)) (fun _ _ _ h => h) (Or.inl ⟨by rfl,?_⟩) ?_ ?_
            rotate_left
            ·intro w'
             go_simp
             with_reducible rfl
            rotate_left
            ·simp only [Act.put,List.setIfInBounds_toArray,List.set_cons_zero,List.set_cons_succ,i64_w,i32_w]
             rfl
            refine done_ (done_of HT_.out (by kernel_rfl)) ?_
            try go_wp2
            go_ret
            exact ⟨by first | rfl|(simp [errW_none,errW_some] <;> rfl)|(simp [*,errW_none,errW_some] <;> rfl),by repeat (first|(with_reducible first|exact HB.out|apply bwA|apply bwN|apply bw1|refine below_set ?_ GE147.out)|exact HB.out)⟩
           ·rw [if_neg c13] at H
            exact absurd H (by simp)
          ·rw [if_neg c12] at H
           exact absurd H (by simp)
         ·rw [if_neg c11] at H
          exact absurd H (by simp)
        ·rw [if_neg c9] at H
         exact absurd H (by simp)
       ·rw [if_neg c8] at H
        exact absurd H (by simp)
      ·rw [if_neg c7] at H
       exact absurd H (by simp)
     ·rw [if_neg c6] at H
      exact absurd H (by simp)
    ·rw [if_neg c5] at H
     exact absurd H (by simp)
   ·rw [if_neg c4] at H
    exact absurd H (by simp)
  ·rw [if_neg c3] at H
   exact absurd H (by simp)
 ·rw [if_neg c2] at H
  exact absurd H (by simp)
end
section
/-! ### impl_RequestText: function 11 -/
def impl_RequestText.f (k : Nat) (a0_0 : ByteArray) (a0_1 : ByteArray) (a0_2 : ByteArray) : Option (ByteArray × Int):=(impl_requestOK.f k a0_0 a0_1 a0_2).bind fun t150 => (if t150 = true then ((impl_requestText.f a0_0 a0_1 a0_2).bind fun t151 => (some (t151,0))) else (some ((⟨#[]⟩ : ByteArray),1)))
theorem impl_RequestText.mono : ∀ a0 a1 a2 k,LeO (impl_RequestText.f k a0 a1 a2) (impl_RequestText.f (k + 1) a0 a1 a2):=by
 intro a0 a1 a2 k
 unfold impl_RequestText.f
 repeat' first
   | (with_reducible exact impl_requestOK.mono ..)
   | (with_reducible exact LeO.refl _)
   | (with_reducible exact LeO.none _)
   | (with_reducible refine LeO.ite ?_ ?_)
   | (with_reducible refine LeO.bind ?_ (fun _ => ?_))
   | exact impl_requestOK.mono ..
   | exact LeO.none _
   | refine LeO.ite ?_ ?_
   | refine LeO.bind ?_ (fun _ => ?_)
set_option maxHeartbeats 8000000 in
set_option maxRecDepth 100000 in
theorem impl_RequestText.calls (k : Nat) (a0_0 : ByteArray) (a0_1 : ByteArray) (a0_2 : ByteArray) (r1 : ByteArray) (r2 : Int) (w : World) (hGp : GLp w) (h : impl_RequestText.f k a0_0 a0_1 a0_2 = some (r1,r2)) :
  Calls Tryd.prog 11 #[.agg #[.string a0_0,.string a0_1,.string a0_2]] w fun e w' => e = .returned (.tuple #[.string r1,.int .i64 r2]) ∧ Below w.heap.size w w':=by
 have HGp_:=aMk hGp
 clear hGp
 have hu27:=Tryd.underlying27
 have HB:=aMk (Below.refl w.heap.size w)
 have H : ((impl_requestOK.f k a0_0 a0_1 a0_2).bind fun t150 => (if t150 = true then ((impl_requestText.f a0_0 a0_1 a0_2).bind fun t151 => (some (t151,0))) else (some ((⟨#[]⟩ : ByteArray),1)))) = some (r1,r2):=h
 clear h
 replace H:=Option.bind_eq_some_iff.mp H
 obtain ⟨t150,A20,H⟩:=H
 replace H : (if t150 = true then ((impl_requestText.f a0_0 a0_1 a0_2).bind fun t151 => (some (t151,0))) else (some ((⟨#[]⟩ : ByteArray),1))) = some (r1,r2):=H
 have A2:=aMk A20
 clear A20
 by_cases c3 : t150 = true
 ·subst c3
  have H1 : ((impl_requestText.f a0_0 a0_1 a0_2).bind fun t151 => (some (t151,0))) = some (r1,r2):=by rw [if_pos rfl] at H;exact H
  clear H
  have H:=H1
  clear H1
  replace H:=Option.bind_eq_some_iff.mp H
  obtain ⟨t151,A40,H⟩:=H
  replace H : (some (t151,0)) = some (r1,r2):=H
  have A4:=aMk A40
  clear A40
  simp only [Option.some.injEq,Prod.mk.injEq] at H
  obtain ⟨rfl,rfl⟩:=H
  go_enter Tryd.func11,Tryd.ntmps11
  go_wp2_with (first|((with_reducible refine gate_dst (N:=1) rfl ?_);refine box_event ?hg (N:=1) ?hd (cs:=#[.string a0_0,.string a0_1,.string a0_2]) (t:=27) ?hr ?_;(case hd => rfl);(case hg => rfl);(case hr => first|(go_simp;done)|(go_simp;rfl));intro gb149 hg w5 hbox hb;have n0_:=aMk (below_step (by repeat first|exact HB.out|apply bwA|apply bwN|apply bw1) hb);have n1_:=aMk (hbox);have n2_:=aMk ((by rw [hg];exact (below_size (by repeat first|exact HB.out|apply bwA|apply bwN|apply bw1)) : w.heap.size ≤ gb149));have n3_:=aMk ((by rw [hg];exact (below_size (by repeat first|exact HB.out|apply bwA|apply bwN|apply bw1)) : w.heap.size ≤ gb149));clear HB;have HB:=n0_;have BK149:=n1_;have GW149:=n2_;have GE149:=n3_;clear n0_ n1_ n2_ n3_;clear hb hbox hg;have hcz6_0 : w5.cell? ⟨gb149,0,none⟩ = some (.string a0_0):=(bCe BK149.out 0).trans rfl;have hcz6_1 : w5.cell? ⟨gb149,1,none⟩ = some (.string a0_1):=(bCe BK149.out 1).trans rfl;have hcz6_2 : w5.cell? ⟨gb149,2,none⟩ = some (.string a0_2):=(bCe BK149.out 2).trans rfl;have hfz6_0:=bFr BK149.out 0;have hfz6_1:=bFr BK149.out 1;have hfz6_2:=bFr BK149.out 2)|((with_reducible refine gate_callee (f:=35) rfl ?_);refine goesL_ (some 5) rfl rfl Tryd.func35 (by kernel_rfl) rfl #[.agg #[.string a0_0,.string a0_1,.string a0_2]] rfl (by (try simp only [List.map_toArray,List.map_cons,List.map_nil]);first | done | rfl|(simp only [List.length_drop,List.length_take];rfl)) ?_;(with_reducible refine (impl_requestOK.calls k a0_0 a0_1 a0_2 true _ A2.out).mono ?_);rintro e w7 ⟨rfl,hb⟩;refine ⟨_,rfl,?_⟩;have n0_:=aMk (blk_below (g:=gb149) (o:=.cells #[.string a0_0,.string a0_1,.string a0_2] 27 (0,0)) (by (with_reducible repeat (first|refine bDn ?_ _|refine bDr ?_|refine bAl ?_ _));exact BK149.out) hb);have n1_:=aMk (below_step (by repeat (first|(with_reducible first|exact HB.out|apply bwA|apply bwN|apply bw1|refine below_set ?_ GE149.out)|exact HB.out)) hb);clear BK149;clear HB;have BK149:=n0_;have HB:=n1_;clear n0_ n1_;(try clear hb);(try clear hb2);(try clear hk);(try clear hi);have hcz8_0 : w7.cell? ⟨gb149,0,none⟩ = some (.string a0_0):=(bCe BK149.out 0).trans rfl;have hcz8_1 : w7.cell? ⟨gb149,1,none⟩ = some (.string a0_1):=(bCe BK149.out 1).trans rfl;have hcz8_2 : w7.cell? ⟨gb149,2,none⟩ = some (.string a0_2):=(bCe BK149.out 2).trans rfl;have hfz8_0:=bFr BK149.out 0;have hfz8_1:=bFr BK149.out 1;have hfz8_2:=bFr BK149.out 2)|((with_reducible refine gate_callee (f:=36) rfl ?_);refine goesL_ (some 8) rfl rfl Tryd.func36 (by kernel_rfl) rfl #[.agg #[.string a0_0,.string a0_1,.string a0_2]] rfl (by (try simp only [List.map_toArray,List.map_cons,List.map_nil]);first | done | rfl|(simp only [List.length_drop,List.length_take];rfl)) ?_;(with_reducible refine (impl_requestText.calls a0_0 a0_1 a0_2 t151 _ ?sideGp A4.out).mono ?_);(case sideGp => exact GLp_below HGp_.out (by repeat first|exact HB.out|apply bwA|apply bwN|apply bw1));rintro e w9 ⟨rfl,hb⟩;refine ⟨_,rfl,?_⟩;have n0_:=aMk (blk_below (g:=gb149) (o:=.cells #[.string a0_0,.string a0_1,.string a0_2] 27 (0,0)) (by (with_reducible repeat (first|refine bDn ?_ _|refine bDr ?_|refine bAl ?_ _));exact BK149.out) hb);have n1_:=aMk (below_step (by repeat (first|(with_reducible first|exact HB.out|apply bwA|apply bwN|apply bw1|refine below_set ?_ GE149.out)|exact HB.out)) hb);clear BK149;clear HB;have BK149:=n0_;have HB:=n1_;clear n0_ n1_;(try clear hb);(try clear hb2);(try clear hk);(try clear hi)))
  go_ret2
  exact ⟨by first | rfl|(simp [errW_none,errW_some] <;> rfl)|(simp [*,errW_none,errW_some] <;> rfl),by repeat (first|(with_reducible first|exact HB.out|apply bwA|apply bwN|apply bw1|refine below_set ?_ GE149.out)|exact HB.out)⟩
 ·replace c3:=Bool.eq_false_iff.mpr c3
  subst c3
  have H1 : (some ((⟨#[]⟩ : ByteArray),1)) = some (r1,r2):=by rw [if_neg (show ¬ (false = true) by decide)] at H;exact H
  clear H
  have H:=H1
  clear H1
  simp only [Option.some.injEq,Prod.mk.injEq] at H
  obtain ⟨rfl,rfl⟩:=H
  go_enter Tryd.func11,Tryd.ntmps11
  go_wp2_with (first|((with_reducible refine gate_dst (N:=1) rfl ?_);refine box_event ?hg (N:=1) ?hd (cs:=#[.string a0_0,.string a0_1,.string a0_2]) (t:=27) ?hr ?_;(case hd => rfl);(case hg => rfl);(case hr => first|(go_simp;done)|(go_simp;rfl));intro gb149 hg w10 hbox hb;have n0_:=aMk (below_step (by repeat first|exact HB.out|apply bwA|apply bwN|apply bw1) hb);have n1_:=aMk (hbox);have n2_:=aMk ((by rw [hg];exact (below_size (by repeat first|exact HB.out|apply bwA|apply bwN|apply bw1)) : w.heap.size ≤ gb149));have n3_:=aMk ((by rw [hg];exact (below_size (by repeat first|exact HB.out|apply bwA|apply bwN|apply bw1)) : w.heap.size ≤ gb149));clear HB;have HB:=n0_;have BK149:=n1_;have GW149:=n2_;have GE149:=n3_;clear n0_ n1_ n2_ n3_;clear hb hbox hg;have hcz11_0 : w10.cell? ⟨gb149,0,none⟩ = some (.string a0_0):=(bCe BK149.out 0).trans rfl;have hcz11_1 : w10.cell? ⟨gb149,1,none⟩ = some (.string a0_1):=(bCe BK149.out 1).trans rfl;have hcz11_2 : w10.cell? ⟨gb149,2,none⟩ = some (.string a0_2):=(bCe BK149.out 2).trans rfl;have hfz11_0:=bFr BK149.out 0;have hfz11_1:=bFr BK149.out 1;have hfz11_2:=bFr BK149.out 2)|((with_reducible refine gate_callee (f:=35) rfl ?_);refine goesL_ (some 5) rfl rfl Tryd.func35 (by kernel_rfl) rfl #[.agg #[.string a0_0,.string a0_1,.string a0_2]] rfl (by (try simp only [List.map_toArray,List.map_cons,List.map_nil]);first | done | rfl|(simp only [List.length_drop,List.length_take];rfl)) ?_;(with_reducible refine (impl_requestOK.calls k a0_0 a0_1 a0_2 false _ A2.out).mono ?_);rintro e w12 ⟨rfl,hb⟩;refine ⟨_,rfl,?_⟩;have n0_:=aMk (blk_below (g:=gb149) (o:=.cells #[.string a0_0,.string a0_1,.string a0_2] 27 (0,0)) (by (with_reducible repeat (first|refine bDn ?_ _|refine bDr ?_|refine bAl ?_ _));exact BK149.out) hb);have n1_:=aMk (below_step (by repeat (first|(with_reducible first|exact HB.out|apply bwA|apply bwN|apply bw1|refine below_set ?_ GE149.out)|exact HB.out)) hb);clear BK149;clear HB;have BK149:=n0_;have HB:=n1_;clear n0_ n1_;(try clear hb);(try clear hb2);(try clear hk);(try clear hi)))
  go_ret2
  exact ⟨by first | rfl|(simp [errW_none,errW_some] <;> rfl)|(simp [*,errW_none,errW_some] <;> rfl),by repeat (first|(with_reducible first|exact HB.out|apply bwA|apply bwN|apply bw1|refine below_set ?_ GE149.out)|exact HB.out)⟩
end
section
/-! ### spec_l11Method: function 32 -/
def spec_l11Method.f (a0 : ByteArray) : Option (Bool):=if a0.toList = ([71,69,84] : List UInt8) then (some true) else (some (a0.toList == ([80,79,83,84] : List UInt8)))
set_option maxHeartbeats 8000000 in
set_option maxRecDepth 100000 in
theorem spec_l11Method.calls (a0 : ByteArray) (r : Bool) (w : World) (h : spec_l11Method.f a0 = some r) :
  Calls Tryd.prog 32 #[.string a0] w fun e w' => e = .returned (.bool r) ∧ Drawn0 w w':=by
 have H : (if a0.toList = ([71,69,84] : List UInt8) then (some true) else (some (a0.toList == ([80,79,83,84] : List UInt8)))) = some r:=h
 clear h
 by_cases c2 : a0.toList = ([71,69,84] : List UInt8)
 ·rw [if_pos c2] at H
  have c2b0 : (a0.toList == ([71,69,84] : List UInt8)) = true:=beq_iff_eq.mpr c2
  have c2b1 : (a0.toList != ([71,69,84] : List UInt8)) = false:=bne_eq_false_iff_eq.mpr c2
  clear c2
  obtain rfl:=Option.some.inj H
  go_enter Tryd.func32,Tryd.ntmps32
  go_wp2
  go_ret
  exact ⟨by first | rfl|(simp;done)|(simp [*];done)|(simp [ne_nil_b];done)|(simp [ne_nil_b, *];done),by repeat (first|exact Drawn0.refl _|apply Drawn0.step)⟩
 ·rw [if_neg c2] at H
  have c2b0 : (a0.toList == ([71,69,84] : List UInt8)) = false:=beq_eq_false_iff_ne.mpr c2
  have c2b1 : (a0.toList != ([71,69,84] : List UInt8)) = true:=bne_iff_ne.mpr c2
  obtain rfl:=Option.some.inj H
  go_enter Tryd.func32,Tryd.ntmps32
  go_wp2
  go_ret
  exact ⟨by first | rfl|(simp;done)|(simp [*];done)|(simp [ne_nil_b];done)|(simp [ne_nil_b, *];done),by repeat (first|exact Drawn0.refl _|apply Drawn0.step)⟩
end
section
/-! ### spec_l11Text: function 34 -/
def spec_l11Text.f (k : Nat) (a0_0 : ByteArray) (a0_1 : ByteArray) (a0_2 : ByteArray) : Option (ByteArray):=if a0_0.size + 1 ≤ 9223372036854775807 then (if (a0_0 ++ (⟨#[32]⟩ : ByteArray)).size + a0_1.size ≤ 9223372036854775807 then (if ((a0_0 ++ (⟨#[32]⟩ : ByteArray)) ++ a0_1).size + 41 ≤ 9223372036854775807 then ((spec_l00Digits.f k (a0_2.size : Int)).bind fun t113 => (if (((a0_0 ++ (⟨#[32]⟩ : ByteArray)) ++ a0_1) ++ (⟨#[32,72,84,84,80,47,49,46,49,13,10,72,111,115,116,58,32,112,111,114,116,97,108,13,10,67,111,110,116,101,110,116,45,76,101,110,103,116,104,58,32]⟩ : ByteArray)).size + t113.size ≤ 9223372036854775807 then (if ((((a0_0 ++ (⟨#[32]⟩ : ByteArray)) ++ a0_1) ++ (⟨#[32,72,84,84,80,47,49,46,49,13,10,72,111,115,116,58,32,112,111,114,116,97,108,13,10,67,111,110,116,101,110,116,45,76,101,110,103,116,104,58,32]⟩ : ByteArray)) ++ t113).size + 4 ≤ 9223372036854775807 then (if (((((a0_0 ++ (⟨#[32]⟩ : ByteArray)) ++ a0_1) ++ (⟨#[32,72,84,84,80,47,49,46,49,13,10,72,111,115,116,58,32,112,111,114,116,97,108,13,10,67,111,110,116,101,110,116,45,76,101,110,103,116,104,58,32]⟩ : ByteArray)) ++ t113) ++ (⟨#[13,10,13,10]⟩ : ByteArray)).size + a0_2.size ≤ 9223372036854775807 then (some ((((((a0_0 ++ (⟨#[32]⟩ : ByteArray)) ++ a0_1) ++ (⟨#[32,72,84,84,80,47,49,46,49,13,10,72,111,115,116,58,32,112,111,114,116,97,108,13,10,67,111,110,116,101,110,116,45,76,101,110,103,116,104,58,32]⟩ : ByteArray)) ++ t113) ++ (⟨#[13,10,13,10]⟩ : ByteArray)) ++ a0_2)) else (none)) else (none)) else (none))) else (none)) else (none)) else (none)
theorem spec_l11Text.mono : ∀ a0 a1 a2 k,LeO (spec_l11Text.f k a0 a1 a2) (spec_l11Text.f (k + 1) a0 a1 a2):=by
 intro a0 a1 a2 k
 unfold spec_l11Text.f
 repeat' first
   | (with_reducible exact spec_l00Digits.mono ..)
   | (with_reducible exact LeO.refl _)
   | (with_reducible exact LeO.none _)
   | (with_reducible refine LeO.ite ?_ ?_)
   | (with_reducible refine LeO.bind ?_ (fun _ => ?_))
   | exact spec_l00Digits.mono ..
   | exact LeO.none _
   | refine LeO.ite ?_ ?_
   | refine LeO.bind ?_ (fun _ => ?_)
def spec_l11Text.T1 : Bool × List (List Nat × List Nat):=(true,[([],[]),([0],[0]),([1],[1]),([],[]),([3],[3]),([2,4],[2,4]),([5],[5]),([],[]),([7],[7]),([8],[8]),([9],[9]),([6,10],[6,10]),([11],[11]),([],[]),([13],[13]),([12,14],[12,14]),([15,10,0,1,2,3,4,5,6,7,8,9,10,11,12,13,14,15],[15])])
def spec_l11Text.B1 : List Nat:=[0,1,3,0,8,31,63,0,128,384,896,2047,4095,0,8192,32767,65535]
theorem spec_l11Text.tab1 : rtab .any (opsOf Tryd.f34 1) = spec_l11Text.T1:=by kernel_rfl
theorem spec_l11Text.bits1 : waitsOk spec_l11Text.T1.2 spec_l11Text.B1 = true:=by kernel_rfl
set_option maxHeartbeats 8000000 in
set_option maxRecDepth 100000 in
theorem spec_l11Text.calls (k : Nat) (a0_0 : ByteArray) (a0_1 : ByteArray) (a0_2 : ByteArray) (r : ByteArray) (w : World) (h : spec_l11Text.f k a0_0 a0_1 a0_2 = some r) :
  Calls Tryd.prog 34 #[.agg #[.string a0_0,.string a0_1,.string a0_2]] w fun e w' => e = .returned (.string r) ∧ Below w.heap.size w w':=by
 have hu27:=Tryd.underlying27
 have HB:=aMk (Below.refl w.heap.size w)
 have H : (if a0_0.size + 1 ≤ 9223372036854775807 then (if (a0_0 ++ (⟨#[32]⟩ : ByteArray)).size + a0_1.size ≤ 9223372036854775807 then (if ((a0_0 ++ (⟨#[32]⟩ : ByteArray)) ++ a0_1).size + 41 ≤ 9223372036854775807 then ((spec_l00Digits.f k (a0_2.size : Int)).bind fun t113 => (if (((a0_0 ++ (⟨#[32]⟩ : ByteArray)) ++ a0_1) ++ (⟨#[32,72,84,84,80,47,49,46,49,13,10,72,111,115,116,58,32,112,111,114,116,97,108,13,10,67,111,110,116,101,110,116,45,76,101,110,103,116,104,58,32]⟩ : ByteArray)).size + t113.size ≤ 9223372036854775807 then (if ((((a0_0 ++ (⟨#[32]⟩ : ByteArray)) ++ a0_1) ++ (⟨#[32,72,84,84,80,47,49,46,49,13,10,72,111,115,116,58,32,112,111,114,116,97,108,13,10,67,111,110,116,101,110,116,45,76,101,110,103,116,104,58,32]⟩ : ByteArray)) ++ t113).size + 4 ≤ 9223372036854775807 then (if (((((a0_0 ++ (⟨#[32]⟩ : ByteArray)) ++ a0_1) ++ (⟨#[32,72,84,84,80,47,49,46,49,13,10,72,111,115,116,58,32,112,111,114,116,97,108,13,10,67,111,110,116,101,110,116,45,76,101,110,103,116,104,58,32]⟩ : ByteArray)) ++ t113) ++ (⟨#[13,10,13,10]⟩ : ByteArray)).size + a0_2.size ≤ 9223372036854775807 then (some ((((((a0_0 ++ (⟨#[32]⟩ : ByteArray)) ++ a0_1) ++ (⟨#[32,72,84,84,80,47,49,46,49,13,10,72,111,115,116,58,32,112,111,114,116,97,108,13,10,67,111,110,116,101,110,116,45,76,101,110,103,116,104,58,32]⟩ : ByteArray)) ++ t113) ++ (⟨#[13,10,13,10]⟩ : ByteArray)) ++ a0_2)) else (none)) else (none)) else (none))) else (none)) else (none)) else (none)) = some r:=h
 clear h
 by_cases c2 : a0_0.size + 1 ≤ 9223372036854775807
 ·rw [if_pos c2] at H
  have c2b0:=eq_true c2
  have c2b1 : decide (a0_0.size + 1 ≤ 9223372036854775807) = true:=decide_eq_true c2
  try have c2b2 : (9223372036854775807 < a0_0.size + 1) = False:=eq_false (Nat.not_lt.2 c2)
  by_cases c3 : (a0_0 ++ (⟨#[32]⟩ : ByteArray)).size + a0_1.size ≤ 9223372036854775807
  ·rw [if_pos c3] at H
   have c3b0:=eq_true c3
   have c3b1 : decide ((a0_0 ++ (⟨#[32]⟩ : ByteArray)).size + a0_1.size ≤ 9223372036854775807) = true:=decide_eq_true c3
   try have c3b2 : (9223372036854775807 < (a0_0 ++ (⟨#[32]⟩ : ByteArray)).size + a0_1.size) = False:=eq_false (Nat.not_lt.2 c3)
   try have c3b3 : (9223372036854775807 < a0_0.size + 1 + a0_1.size) = False:=by rw [← show (a0_0 ++ (⟨#[32]⟩ : ByteArray)).size = a0_0.size + 1 from by (simp only [ByteArray.size_append];rfl)];exact c3b2
   by_cases c4 : ((a0_0 ++ (⟨#[32]⟩ : ByteArray)) ++ a0_1).size + 41 ≤ 9223372036854775807
   ·rw [if_pos c4] at H
    have c4b0:=eq_true c4
    have c4b1 : decide (((a0_0 ++ (⟨#[32]⟩ : ByteArray)) ++ a0_1).size + 41 ≤ 9223372036854775807) = true:=decide_eq_true c4
    try have c4b2 : (9223372036854775807 < ((a0_0 ++ (⟨#[32]⟩ : ByteArray)) ++ a0_1).size + 41) = False:=eq_false (Nat.not_lt.2 c4)
    try have c4b3 : (9223372036854775807 < a0_0.size + 1 + a0_1.size + 41) = False:=by rw [← show ((a0_0 ++ (⟨#[32]⟩ : ByteArray)) ++ a0_1).size = a0_0.size + 1 + a0_1.size from by (simp only [ByteArray.size_append];rfl)];exact c4b2
    replace H:=Option.bind_eq_some_iff.mp H
    obtain ⟨t113,A50,H⟩:=H
    replace H : (if (((a0_0 ++ (⟨#[32]⟩ : ByteArray)) ++ a0_1) ++ (⟨#[32,72,84,84,80,47,49,46,49,13,10,72,111,115,116,58,32,112,111,114,116,97,108,13,10,67,111,110,116,101,110,116,45,76,101,110,103,116,104,58,32]⟩ : ByteArray)).size + t113.size ≤ 9223372036854775807 then (if ((((a0_0 ++ (⟨#[32]⟩ : ByteArray)) ++ a0_1) ++ (⟨#[32,72,84,84,80,47,49,46,49,13,10,72,111,115,116,58,32,112,111,114,116,97,108,13,10,67,111,110,116,101,110,116,45,76,101,110,103,116,104,58,32]⟩ : ByteArray)) ++ t113).size + 4 ≤ 9223372036854775807 then (if (((((a0_0 ++ (⟨#[32]⟩ : ByteArray)) ++ a0_1) ++ (⟨#[32,72,84,84,80,47,49,46,49,13,10,72,111,115,116,58,32,112,111,114,116,97,108,13,10,67,111,110,116,101,110,116,45,76,101,110,103,116,104,58,32]⟩ : ByteArray)) ++ t113) ++ (⟨#[13,10,13,10]⟩ : ByteArray)).size + a0_2.size ≤ 9223372036854775807 then (some ((((((a0_0 ++ (⟨#[32]⟩ : ByteArray)) ++ a0_1) ++ (⟨#[32,72,84,84,80,47,49,46,49,13,10,72,111,115,116,58,32,112,111,114,116,97,108,13,10,67,111,110,116,101,110,116,45,76,101,110,103,116,104,58,32]⟩ : ByteArray)) ++ t113) ++ (⟨#[13,10,13,10]⟩ : ByteArray)) ++ a0_2)) else (none)) else (none)) else (none)) = some r:=H
    have A5:=aMk A50
    clear A50
    by_cases c6 : (((a0_0 ++ (⟨#[32]⟩ : ByteArray)) ++ a0_1) ++ (⟨#[32,72,84,84,80,47,49,46,49,13,10,72,111,115,116,58,32,112,111,114,116,97,108,13,10,67,111,110,116,101,110,116,45,76,101,110,103,116,104,58,32]⟩ : ByteArray)).size + t113.size ≤ 9223372036854775807
    ·rw [if_pos c6] at H
     have c6b0:=eq_true c6
     have c6b1 : decide ((((a0_0 ++ (⟨#[32]⟩ : ByteArray)) ++ a0_1) ++ (⟨#[32,72,84,84,80,47,49,46,49,13,10,72,111,115,116,58,32,112,111,114,116,97,108,13,10,67,111,110,116,101,110,116,45,76,101,110,103,116,104,58,32]⟩ : ByteArray)).size + t113.size ≤ 9223372036854775807) = true:=decide_eq_true c6
     try have c6b2 : (9223372036854775807 < (((a0_0 ++ (⟨#[32]⟩ : ByteArray)) ++ a0_1) ++ (⟨#[32,72,84,84,80,47,49,46,49,13,10,72,111,115,116,58,32,112,111,114,116,97,108,13,10,67,111,110,116,101,110,116,45,76,101,110,103,116,104,58,32]⟩ : ByteArray)).size + t113.size) = False:=eq_false (Nat.not_lt.2 c6)
     try have c6b3 : (9223372036854775807 < a0_0.size + 1 + a0_1.size + 41 + t113.size) = False:=by rw [← show (((a0_0 ++ (⟨#[32]⟩ : ByteArray)) ++ a0_1) ++ (⟨#[32,72,84,84,80,47,49,46,49,13,10,72,111,115,116,58,32,112,111,114,116,97,108,13,10,67,111,110,116,101,110,116,45,76,101,110,103,116,104,58,32]⟩ : ByteArray)).size = a0_0.size + 1 + a0_1.size + 41 from by (simp only [ByteArray.size_append];rfl)];exact c6b2
     by_cases c7 : ((((a0_0 ++ (⟨#[32]⟩ : ByteArray)) ++ a0_1) ++ (⟨#[32,72,84,84,80,47,49,46,49,13,10,72,111,115,116,58,32,112,111,114,116,97,108,13,10,67,111,110,116,101,110,116,45,76,101,110,103,116,104,58,32]⟩ : ByteArray)) ++ t113).size + 4 ≤ 9223372036854775807
     ·rw [if_pos c7] at H
      have c7b0:=eq_true c7
      have c7b1 : decide (((((a0_0 ++ (⟨#[32]⟩ : ByteArray)) ++ a0_1) ++ (⟨#[32,72,84,84,80,47,49,46,49,13,10,72,111,115,116,58,32,112,111,114,116,97,108,13,10,67,111,110,116,101,110,116,45,76,101,110,103,116,104,58,32]⟩ : ByteArray)) ++ t113).size + 4 ≤ 9223372036854775807) = true:=decide_eq_true c7
      try have c7b2 : (9223372036854775807 < ((((a0_0 ++ (⟨#[32]⟩ : ByteArray)) ++ a0_1) ++ (⟨#[32,72,84,84,80,47,49,46,49,13,10,72,111,115,116,58,32,112,111,114,116,97,108,13,10,67,111,110,116,101,110,116,45,76,101,110,103,116,104,58,32]⟩ : ByteArray)) ++ t113).size + 4) = False:=eq_false (Nat.not_lt.2 c7)
      try have c7b3 : (9223372036854775807 < a0_0.size + 1 + a0_1.size + 41 + t113.size + 4) = False:=by rw [← show ((((a0_0 ++ (⟨#[32]⟩ : ByteArray)) ++ a0_1) ++ (⟨#[32,72,84,84,80,47,49,46,49,13,10,72,111,115,116,58,32,112,111,114,116,97,108,13,10,67,111,110,116,101,110,116,45,76,101,110,103,116,104,58,32]⟩ : ByteArray)) ++ t113).size = a0_0.size + 1 + a0_1.size + 41 + t113.size from by (simp only [ByteArray.size_append];rfl)];exact c7b2
      by_cases c8 : (((((a0_0 ++ (⟨#[32]⟩ : ByteArray)) ++ a0_1) ++ (⟨#[32,72,84,84,80,47,49,46,49,13,10,72,111,115,116,58,32,112,111,114,116,97,108,13,10,67,111,110,116,101,110,116,45,76,101,110,103,116,104,58,32]⟩ : ByteArray)) ++ t113) ++ (⟨#[13,10,13,10]⟩ : ByteArray)).size + a0_2.size ≤ 9223372036854775807
      ·rw [if_pos c8] at H
       have c8b0:=eq_true c8
       have c8b1 : decide ((((((a0_0 ++ (⟨#[32]⟩ : ByteArray)) ++ a0_1) ++ (⟨#[32,72,84,84,80,47,49,46,49,13,10,72,111,115,116,58,32,112,111,114,116,97,108,13,10,67,111,110,116,101,110,116,45,76,101,110,103,116,104,58,32]⟩ : ByteArray)) ++ t113) ++ (⟨#[13,10,13,10]⟩ : ByteArray)).size + a0_2.size ≤ 9223372036854775807) = true:=decide_eq_true c8
       try have c8b2 : (9223372036854775807 < (((((a0_0 ++ (⟨#[32]⟩ : ByteArray)) ++ a0_1) ++ (⟨#[32,72,84,84,80,47,49,46,49,13,10,72,111,115,116,58,32,112,111,114,116,97,108,13,10,67,111,110,116,101,110,116,45,76,101,110,103,116,104,58,32]⟩ : ByteArray)) ++ t113) ++ (⟨#[13,10,13,10]⟩ : ByteArray)).size + a0_2.size) = False:=eq_false (Nat.not_lt.2 c8)
       try have c8b3 : (9223372036854775807 < a0_0.size + 1 + a0_1.size + 41 + t113.size + 4 + a0_2.size) = False:=by rw [← show (((((a0_0 ++ (⟨#[32]⟩ : ByteArray)) ++ a0_1) ++ (⟨#[32,72,84,84,80,47,49,46,49,13,10,72,111,115,116,58,32,112,111,114,116,97,108,13,10,67,111,110,116,101,110,116,45,76,101,110,103,116,104,58,32]⟩ : ByteArray)) ++ t113) ++ (⟨#[13,10,13,10]⟩ : ByteArray)).size = a0_0.size + 1 + a0_1.size + 41 + t113.size + 4 from by (simp only [ByteArray.size_append];rfl)];exact c8b2
       obtain rfl:=Option.some.inj H
       go_enter Tryd.func34,Tryd.ntmps34
       try go_wp2_with (first|((with_reducible refine gate_dst (N:=1) rfl ?_);refine box_event ?hg (N:=1) ?hd (cs:=#[.string a0_0,.string a0_1,.string a0_2]) (t:=27) ?hr ?_;(case hd => rfl);(case hg => rfl);(case hr => first|(go_simp;done)|(go_simp;rfl));intro gb112 hg w9 hbox hb;have n0_:=aMk (below_step (by repeat first|exact HB.out|apply bwA|apply bwN|apply bw1) hb);have n1_:=aMk (hbox);have n2_:=aMk ((by rw [hg];exact (below_size (by repeat first|exact HB.out|apply bwA|apply bwN|apply bw1)) : w.heap.size ≤ gb112));have n3_:=aMk ((by rw [hg];exact (below_size (by repeat first|exact HB.out|apply bwA|apply bwN|apply bw1)) : w.heap.size ≤ gb112));clear HB;have HB:=n0_;have BK112:=n1_;have GW112:=n2_;have GE112:=n3_;clear n0_ n1_ n2_ n3_;clear hb hbox hg))
       have n0_:=aMk (bDr BK112.out)
       have n1_:=aMk (bw1 HB.out)
       clear BK112
       clear HB
       have BK112:=n0_
       have HB:=n1_
       clear n0_ n1_
       refine start_ (n:=17) (S:=fun w' => w'.cell? ⟨gb112,0,none⟩ = some (.string a0_0) ∧ w'.cell? ⟨gb112,1,none⟩ = some (.string a0_1) ∧ w'.cell? ⟨gb112,2,none⟩ = some (.string a0_2)) (ds:=[]) #[false,false,false,false,false,false,false,false,false,false,false,false,false,false,false,false,false] (by kernel_rfl) rfl rfl ⟨(bCe BK112.out 0).trans rfl,(bCe BK112.out 1).trans rfl,(bCe BK112.out 2).trans rfl⟩ (fun hHeld => ?_);refine with_tabW spec_l11Text.tab1 spec_l11Text.bits1 (fun HT_ HW_ => ?_)
       generalize w9.drew = w10 at BK112 HB hHeld ⊢
       refine pure_ (i:=0) (N:=some 3) (v:=?_) (a':=?_) #[true,false,false,false,false,false,false,false,false,false,false,false,false,false,false,false,false] rfl rfl (any_of HT_.out (by kernel_rfl)) (fun _ _ _ h => h) (Or.inl ⟨by rfl,?_⟩) ?_ ?_
       rotate_left
       ·intro w'
        go_simp
        with_reducible rfl
       rotate_left
       ·simp only [Act.put,List.setIfInBounds_toArray,List.set_cons_zero,List.set_cons_succ,i64_w,i32_w]
        rfl
       refine pure_ (i:=3) (N:=some 6) (v:=?_) (a':=?_) #[true,false,false,true,false,false,false,false,false,false,false,false,false,false,false,false,false] rfl rfl (any_of HT_.out (by kernel_rfl)) (fun _ _ _ h => h) (Or.inl ⟨by rfl,?_⟩) ?_ ?_
       rotate_left
       ·intro w'
        go_simp
        with_reducible rfl
       rotate_left
       ·simp only [Act.put,List.setIfInBounds_toArray,List.set_cons_zero,List.set_cons_succ,i64_w,i32_w]
        rfl
       refine pure_ (i:=7) (N:=some 10) (v:=?_) (a':=?_) #[true,false,false,true,false,false,false,true,false,false,false,false,false,false,false,false,false] rfl rfl (any_of HT_.out (by kernel_rfl)) (fun _ _ _ h => h) (Or.inl ⟨by rfl,?_⟩) ?_ ?_
       rotate_left
       ·intro w'
        go_simp
        with_reducible rfl
       rotate_left
       ·simp only [Act.put,List.setIfInBounds_toArray,List.set_cons_zero,List.set_cons_succ,i64_w,i32_w]
        rfl
       refine pure_ (i:=13) (N:=some 16) (v:=?_) (a':=?_) #[true,false,false,true,false,false,false,true,false,false,false,false,false,true,false,false,false] rfl rfl (any_of HT_.out (by kernel_rfl)) (fun _ _ _ h => h) (Or.inl ⟨by rfl,?_⟩) ?_ ?_
       rotate_left
       ·intro w'
        go_simp
        with_reducible rfl
       rotate_left
       ·simp only [Act.put,List.setIfInBounds_toArray,List.set_cons_zero,List.set_cons_succ,i64_w,i32_w]
        rfl
       refine take_ (i:=1) (N:=some 4) (v:=?_) (a':=?_) #[true,true,false,true,false,false,false,true,false,false,false,false,false,true,false,false,false] rfl rfl (take_ofW HT_.out HW_.out (by kernel_rfl)) (fun _ _ _ h => h) (Or.inl ⟨by rfl,?_⟩) hHeld ?_ ?_
       rotate_left
       ·rintro w' ⟨s0,s1,s2⟩
        go_simp
        with_reducible rfl
       rotate_left
       ·simp only [Act.put,List.setIfInBounds_toArray,List.set_cons_zero,List.set_cons_succ,i64_w,i32_w]
        rfl
       refine pure_ (i:=2) (N:=some 5) (v:=?_) (a':=?_) #[true,true,true,true,false,false,false,true,false,false,false,false,false,true,false,false,false] rfl rfl (any_of HT_.out (by kernel_rfl)) (fun _ _ _ h => h) (Or.inl ⟨by rfl,?_⟩) ?_ ?_
       rotate_left
       ·intro w'
        go_simp
        with_reducible rfl
       rotate_left
       ·simp only [Act.put,List.setIfInBounds_toArray,List.set_cons_zero,List.set_cons_succ,i64_w,i32_w]
        rfl
       refine take_ (i:=4) (N:=some 7) (v:=?_) (a':=?_) #[true,true,true,true,true,false,false,true,false,false,false,false,false,true,false,false,false] rfl rfl (take_ofW HT_.out HW_.out (by kernel_rfl)) (fun _ _ _ h => h) (Or.inl ⟨by rfl,?_⟩) hHeld ?_ ?_
       rotate_left
       ·rintro w' ⟨s0,s1,s2⟩
        go_simp
        with_reducible rfl
       rotate_left
       ·simp only [Act.put,List.setIfInBounds_toArray,List.set_cons_zero,List.set_cons_succ,i64_w,i32_w]
        rfl
       refine pure_ (i:=5) (N:=some 8) (v:=?_) (a':=?_) #[true,true,true,true,true,true,false,true,false,false,false,false,false,true,false,false,false] rfl rfl (any_of HT_.out (by kernel_rfl)) (fun _ _ _ h => h) (Or.inl ⟨by rfl,?_⟩) ?_ ?_
       rotate_left
       ·intro w'
        go_simp
        with_reducible rfl
       rotate_left
       ·simp only [Act.put,List.setIfInBounds_toArray,List.set_cons_zero,List.set_cons_succ,i64_w,i32_w]
        rfl
       refine pure_ (i:=6) (N:=some 9) (v:=?_) (a':=?_) #[true,true,true,true,true,true,true,true,false,false,false,false,false,true,false,false,false] rfl rfl (any_of HT_.out (by kernel_rfl)) (fun _ _ _ h => h) (Or.inl ⟨by rfl,?_⟩) ?_ ?_
       rotate_left
       ·intro w'
        go_simp
        with_reducible rfl
       rotate_left
       ·simp only [Act.put,List.setIfInBounds_toArray,List.set_cons_zero,List.set_cons_succ,i64_w,i32_w]
        rfl
       refine take_ (i:=8) (N:=some 11) (v:=?_) (a':=?_) #[true,true,true,true,true,true,true,true,true,false,false,false,false,true,false,false,false] rfl rfl (take_ofW HT_.out HW_.out (by kernel_rfl)) (fun _ _ _ h => h) (Or.inl ⟨by rfl,?_⟩) hHeld ?_ ?_
       rotate_left
       ·rintro w' ⟨s0,s1,s2⟩
        go_simp
        with_reducible rfl
       rotate_left
       ·simp only [Act.put,List.setIfInBounds_toArray,List.set_cons_zero,List.set_cons_succ,i64_w,i32_w]
        rfl
       refine pure_ (i:=9) (N:=some 12) (v:=?_) (a':=?_) #[true,true,true,true,true,true,true,true,true,true,false,false,false,true,false,false,false] rfl rfl (any_of HT_.out (by kernel_rfl)) (fun _ _ _ h => h) (Or.inl ⟨by rfl,?_⟩) ?_ ?_
       rotate_left
       ·intro w'
        go_simp
        with_reducible rfl
       rotate_left
       ·simp only [Act.put,List.setIfInBounds_toArray,List.set_cons_zero,List.set_cons_succ,i64_w,i32_w]
        rfl
       refine take_ (i:=14) (N:=some 17) (v:=?_) (a':=?_) #[true,true,true,true,true,true,true,true,true,true,false,false,false,true,true,false,false] rfl rfl (take_ofW HT_.out HW_.out (by kernel_rfl)) (fun _ _ _ h => h) (Or.inl ⟨by rfl,?_⟩) hHeld ?_ ?_
       rotate_left
       ·rintro w' ⟨s0,s1,s2⟩
        go_simp
        with_reducible rfl
       rotate_left
       ·simp only [Act.put,List.setIfInBounds_toArray,List.set_cons_zero,List.set_cons_succ,i64_w,i32_w]
        rfl
       refine one_ (i:=10) (N:=some 13) #[true,true,true,true,true,true,true,true,true,true,true,false,false,true,true,false,false] rfl rfl (one_of HT_.out (by kernel_rfl)) (by decide) (fun K hK => ?_)
       refine goes_ Tryd.func56 (by kernel_rfl) rfl #[.int .i64 (a0_2.size : Int)] (by rfl) rfl rfl (by (try simp only [List.map_toArray,List.map_cons,List.map_nil]);first | done | rfl|(simp only [List.length_drop,List.length_take];rfl)) ?_
       with_reducible refine (spec_l00Digits.calls k (a0_2.size : Int) t113 _ A5.out).mono ?_
       rintro e w11 ⟨rfl,hb⟩
       refine ⟨_,rfl,?_⟩
       have n0_:=aMk (blk_below (g:=gb112) (o:=.cells #[.string a0_0,.string a0_1,.string a0_2] 27 (0,0)) (by (with_reducible repeat (first|refine bDn ?_ _|refine bDr ?_|refine bAl ?_ _));exact BK112.out) hb)
       have n1_:=aMk (below_step (by repeat (first|(with_reducible first|exact HB.out|apply bwA|apply bwN|apply bw1|refine below_set ?_ GE112.out)|exact HB.out)) hb)
       clear BK112
       clear HB
       have BK112:=n0_
       have HB:=n1_
       clear n0_ n1_
       (try clear hb)
       (try clear hb2)
       (try clear hk)
       (try clear hi)
       refine hK.out _ _ ⟨(bCe BK112.out 0).trans rfl,(bCe BK112.out 1).trans rfl,(bCe BK112.out 2).trans rfl⟩ (fun hHeld => ?_)
       clear hK K
       refine norm_ (a':=?_) ?_ ?_
       rotate_left
       ·show Act.put _ (some 13) _ = _
        simp only [Act.put,List.setIfInBounds_toArray,List.set_cons_zero,List.set_cons_succ,i64_w,i32_w]
        rfl
       refine pure_ (i:=11) (N:=some 14) (v:=?_) (a':=?_) #[true,true,true,true,true,true,true,true,true,true,true,true,false,true,true,false,false] rfl rfl (any_of HT_.out (by kernel_rfl)) (fun _ _ _ h => h) (Or.inl ⟨by rfl,?_⟩) ?_ ?_
       rotate_left
       ·intro w'
        go_simp
        with_reducible rfl
       rotate_left
       ·simp only [Act.put,List.setIfInBounds_toArray,List.set_cons_zero,List.set_cons_succ,i64_w,i32_w]
        rfl
       refine pure_ (i:=12) (N:=some 15) (v:=?_) (a':=?_) #[true,true,true,true,true,true,true,true,true,true,true,true,true,true,true,false,false] rfl rfl (any_of HT_.out (by kernel_rfl)) (fun _ _ _ h => h) (Or.inl ⟨by rfl,?_⟩) ?_ ?_
       rotate_left
       ·intro w'
        go_simp
        with_reducible rfl
       rotate_left
       ·simp only [Act.put,List.setIfInBounds_toArray,List.set_cons_zero,List.set_cons_succ,i64_w,i32_w]
        rfl
       refine pure_ (i:=15) (N:=some 18) (v:=?_) (a':=?_) #[true,true,true,true,true,true,true,true,true,true,true,true,true,true,true,true,false] rfl rfl (any_of HT_.out (by kernel_rfl)) (fun _ _ _ h => h) (Or.inl ⟨by rfl,?_⟩) ?_ ?_
       rotate_left
       ·intro w'
        go_simp
        with_reducible rfl
       rotate_left
       ·simp only [Act.put,List.setIfInBounds_toArray,List.set_cons_zero,List.set_cons_succ,i64_w,i32_w]
        rfl
       refine pure_ (i:=16) (N:=some 2) (v:=?_) (a':=?_) #[true,true,true,true,true,true,true,true,true,true,true,true,true,true,true,true,true] rfl rfl (any_of HT_.out (by kernel_rfl)) (fun _ _ _ h => h) (Or.inl ⟨by rfl,?_⟩) ?_ ?_
       rotate_left
       ·intro w'
        go_simp
        with_reducible rfl
       rotate_left
       ·simp only [Act.put,List.setIfInBounds_toArray,List.set_cons_zero,List.set_cons_succ,i64_w,i32_w]
        rfl
       refine done_ (done_of HT_.out (by kernel_rfl)) ?_
       try go_wp2
       go_ret
       exact ⟨by first | rfl|(simp [errW_none,errW_some] <;> rfl)|(simp [*,errW_none,errW_some] <;> rfl),by repeat (first|(with_reducible first|exact HB.out|apply bwA|apply bwN|apply bw1|refine below_set ?_ GE112.out)|exact HB.out)⟩
      ·rw [if_neg c8] at H
       exact absurd H (by simp)
     ·rw [if_neg c7] at H
      exact absurd H (by simp)
    ·rw [if_neg c6] at H
     exact absurd H (by simp)
   ·rw [if_neg c4] at H
    exact absurd H (by simp)
  ·rw [if_neg c3] at H
   exact absurd H (by simp)
 ·rw [if_neg c2] at H
  exact absurd H (by simp)
end
section
/-! ### spec_RequestText: function 9 -/
def spec_RequestText.f (k : Nat) (a0_0 : ByteArray) (a0_1 : ByteArray) (a0_2 : ByteArray) : Option (ByteArray × Int):=(spec_l11Method.f a0_0).bind fun t115 => (if t115 = true then ((spec_l11Path.f k a0_1).bind fun t116 => (if t116 = true then (if (a0_2.size : Int) > 80 then (some ((⟨#[]⟩ : ByteArray),1)) else ((spec_l11Text.f k a0_0 a0_1 a0_2).bind fun t117 => (some (t117,0)))) else (some ((⟨#[]⟩ : ByteArray),1)))) else (some ((⟨#[]⟩ : ByteArray),1)))
theorem spec_RequestText.mono : ∀ a0 a1 a2 k,LeO (spec_RequestText.f k a0 a1 a2) (spec_RequestText.f (k + 1) a0 a1 a2):=by
 intro a0 a1 a2 k
 unfold spec_RequestText.f
 repeat' first
   | (with_reducible exact spec_l11Path.mono ..)
   | (with_reducible exact spec_l11Text.mono ..)
   | (with_reducible exact LeO.refl _)
   | (with_reducible exact LeO.none _)
   | (with_reducible refine LeO.ite ?_ ?_)
   | (with_reducible refine LeO.bind ?_ (fun _ => ?_))
   | exact spec_l11Path.mono ..
   | exact spec_l11Text.mono ..
   | exact LeO.none _
   | refine LeO.ite ?_ ?_
   | refine LeO.bind ?_ (fun _ => ?_)
set_option maxHeartbeats 8000000 in
set_option maxRecDepth 100000 in
theorem spec_RequestText.calls (k : Nat) (a0_0 : ByteArray) (a0_1 : ByteArray) (a0_2 : ByteArray) (r1 : ByteArray) (r2 : Int) (w : World) (h : spec_RequestText.f k a0_0 a0_1 a0_2 = some (r1,r2)) :
  Calls Tryd.prog 9 #[.agg #[.string a0_0,.string a0_1,.string a0_2]] w fun e w' => e = .returned (.tuple #[.string r1,.int .i64 r2]) ∧ Below w.heap.size w w':=by
 have hu27:=Tryd.underlying27
 have HB:=aMk (Below.refl w.heap.size w)
 have H : ((spec_l11Method.f a0_0).bind fun t115 => (if t115 = true then ((spec_l11Path.f k a0_1).bind fun t116 => (if t116 = true then (if (a0_2.size : Int) > 80 then (some ((⟨#[]⟩ : ByteArray),1)) else ((spec_l11Text.f k a0_0 a0_1 a0_2).bind fun t117 => (some (t117,0)))) else (some ((⟨#[]⟩ : ByteArray),1)))) else (some ((⟨#[]⟩ : ByteArray),1)))) = some (r1,r2):=h
 clear h
 replace H:=Option.bind_eq_some_iff.mp H
 obtain ⟨t115,A20,H⟩:=H
 replace H : (if t115 = true then ((spec_l11Path.f k a0_1).bind fun t116 => (if t116 = true then (if (a0_2.size : Int) > 80 then (some ((⟨#[]⟩ : ByteArray),1)) else ((spec_l11Text.f k a0_0 a0_1 a0_2).bind fun t117 => (some (t117,0)))) else (some ((⟨#[]⟩ : ByteArray),1)))) else (some ((⟨#[]⟩ : ByteArray),1))) = some (r1,r2):=H
 have A2:=aMk A20
 clear A20
 by_cases c3 : t115 = true
 ·subst c3
  have H1 : ((spec_l11Path.f k a0_1).bind fun t116 => (if t116 = true then (if (a0_2.size : Int) > 80 then (some ((⟨#[]⟩ : ByteArray),1)) else ((spec_l11Text.f k a0_0 a0_1 a0_2).bind fun t117 => (some (t117,0)))) else (some ((⟨#[]⟩ : ByteArray),1)))) = some (r1,r2):=by rw [if_pos rfl] at H;exact H
  clear H
  have H:=H1
  clear H1
  replace H:=Option.bind_eq_some_iff.mp H
  obtain ⟨t116,A40,H⟩:=H
  replace H : (if t116 = true then (if (a0_2.size : Int) > 80 then (some ((⟨#[]⟩ : ByteArray),1)) else ((spec_l11Text.f k a0_0 a0_1 a0_2).bind fun t117 => (some (t117,0)))) else (some ((⟨#[]⟩ : ByteArray),1))) = some (r1,r2):=H
  have A4:=aMk A40
  clear A40
  by_cases c5 : t116 = true
  ·subst c5
   have H1 : (if (a0_2.size : Int) > 80 then (some ((⟨#[]⟩ : ByteArray),1)) else ((spec_l11Text.f k a0_0 a0_1 a0_2).bind fun t117 => (some (t117,0)))) = some (r1,r2):=by rw [if_pos rfl] at H;exact H
   clear H
   have H:=H1
   clear H1
   by_cases c6 : (a0_2.size : Int) > 80
   ·rw [if_pos c6] at H
    have c6b0 : decide (80 < (a0_2.size : Int)) = true:=decide_eq_true c6
    have c6b1 : decide (80 < a0_2.size) = true:=decide_eq_true (by omega)
    clear c6
    simp only [Option.some.injEq,Prod.mk.injEq] at H
    obtain ⟨rfl,rfl⟩:=H
    go_enter Tryd.func9,Tryd.ntmps9
    go_wp2_with (first|((with_reducible refine gate_dst (N:=1) rfl ?_);(try (refine gate_guard (by rfl) ?_;dsimp only));refine box_event ?hg (N:=1) ?hd (cs:=#[.string a0_0,.string a0_1,.string a0_2]) (t:=27) ?hr ?_;(case hd => rfl);(case hg => rfl);(case hr => first|(go_simp;done)|(go_simp;rfl));intro gb114 hg w7 hbox hb;have n0_:=aMk (below_step (by repeat first|exact HB.out|apply bwA|apply bwN|apply bw1) hb);have n1_:=aMk (hbox);have n2_:=aMk ((by rw [hg];exact (below_size (by repeat first|exact HB.out|apply bwA|apply bwN|apply bw1)) : w.heap.size ≤ gb114));have n3_:=aMk ((by rw [hg];exact (below_size (by repeat first|exact HB.out|apply bwA|apply bwN|apply bw1)) : w.heap.size ≤ gb114));clear HB;have HB:=n0_;have BK114:=n1_;have GW114:=n2_;have GE114:=n3_;clear n0_ n1_ n2_ n3_;clear hb hbox hg;have hcz8_0 : w7.cell? ⟨gb114,0,none⟩ = some (.string a0_0):=(bCe BK114.out 0).trans rfl;have hcz8_1 : w7.cell? ⟨gb114,1,none⟩ = some (.string a0_1):=(bCe BK114.out 1).trans rfl;have hcz8_2 : w7.cell? ⟨gb114,2,none⟩ = some (.string a0_2):=(bCe BK114.out 2).trans rfl;have hfz8_0:=bFr BK114.out 0;have hfz8_1:=bFr BK114.out 1;have hfz8_2:=bFr BK114.out 2)|((with_reducible refine gate_callee (f:=32) rfl ?_);refine goesL_ (some 6) rfl rfl Tryd.func32 (by kernel_rfl) rfl #[.string a0_0] rfl (by (try simp only [List.map_toArray,List.map_cons,List.map_nil]);first | done | rfl|(simp only [List.length_drop,List.length_take];rfl)) ?_;(with_reducible refine (spec_l11Method.calls a0_0 true _ A2.out).mono ?_);rintro e w' ⟨rfl,⟨nd,rfl⟩⟩;refine ⟨_,rfl,?_⟩)|(go_at_call 33;(with_reducible refine (spec_l11Path.calls k a0_1 true _ A4.out).mono ?_);rintro e w' ⟨rfl,⟨nd,rfl⟩⟩))
    go_ret2
    exact ⟨by first | rfl|(simp [errW_none,errW_some] <;> rfl)|(simp [*,errW_none,errW_some] <;> rfl),by repeat (first|(with_reducible first|exact HB.out|apply bwA|apply bwN|apply bw1|refine below_set ?_ GE114.out)|exact HB.out)⟩
   ·rw [if_neg c6] at H
    have c6b0 : decide (80 < (a0_2.size : Int)) = false:=decide_eq_false c6
    have c6b1 : decide (80 < a0_2.size) = false:=decide_eq_false (by omega)
    clear c6
    replace H:=Option.bind_eq_some_iff.mp H
    obtain ⟨t117,A90,H⟩:=H
    replace H : (some (t117,0)) = some (r1,r2):=H
    have A9:=aMk A90
    clear A90
    simp only [Option.some.injEq,Prod.mk.injEq] at H
    obtain ⟨rfl,rfl⟩:=H
    go_enter Tryd.func9,Tryd.ntmps9
    go_wp2_with (first|((with_reducible refine gate_dst (N:=1) rfl ?_);(try (refine gate_guard (by rfl) ?_;dsimp only));refine box_event ?hg (N:=1) ?hd (cs:=#[.string a0_0,.string a0_1,.string a0_2]) (t:=27) ?hr ?_;(case hd => rfl);(case hg => rfl);(case hr => first|(go_simp;done)|(go_simp;rfl));intro gb114 hg w10 hbox hb;have n0_:=aMk (below_step (by repeat first|exact HB.out|apply bwA|apply bwN|apply bw1) hb);have n1_:=aMk (hbox);have n2_:=aMk ((by rw [hg];exact (below_size (by repeat first|exact HB.out|apply bwA|apply bwN|apply bw1)) : w.heap.size ≤ gb114));have n3_:=aMk ((by rw [hg];exact (below_size (by repeat first|exact HB.out|apply bwA|apply bwN|apply bw1)) : w.heap.size ≤ gb114));clear HB;have HB:=n0_;have BK114:=n1_;have GW114:=n2_;have GE114:=n3_;clear n0_ n1_ n2_ n3_;clear hb hbox hg;have hcz11_0 : w10.cell? ⟨gb114,0,none⟩ = some (.string a0_0):=(bCe BK114.out 0).trans rfl;have hcz11_1 : w10.cell? ⟨gb114,1,none⟩ = some (.string a0_1):=(bCe BK114.out 1).trans rfl;have hcz11_2 : w10.cell? ⟨gb114,2,none⟩ = some (.string a0_2):=(bCe BK114.out 2).trans rfl;have hfz11_0:=bFr BK114.out 0;have hfz11_1:=bFr BK114.out 1;have hfz11_2:=bFr BK114.out 2)|((with_reducible refine gate_callee (f:=32) rfl ?_);refine goesL_ (some 6) rfl rfl Tryd.func32 (by kernel_rfl) rfl #[.string a0_0] rfl (by (try simp only [List.map_toArray,List.map_cons,List.map_nil]);first | done | rfl|(simp only [List.length_drop,List.length_take];rfl)) ?_;(with_reducible refine (spec_l11Method.calls a0_0 true _ A2.out).mono ?_);rintro e w' ⟨rfl,⟨nd,rfl⟩⟩;refine ⟨_,rfl,?_⟩)|(go_at_call 33;(with_reducible refine (spec_l11Path.calls k a0_1 true _ A4.out).mono ?_);rintro e w' ⟨rfl,⟨nd,rfl⟩⟩)|((with_reducible refine gate_callee (f:=34) rfl ?_);refine goesL_ (some 21) rfl rfl Tryd.func34 (by kernel_rfl) rfl #[.agg #[.string a0_0,.string a0_1,.string a0_2]] rfl (by (try simp only [List.map_toArray,List.map_cons,List.map_nil]);first | done | rfl|(simp only [List.length_drop,List.length_take];rfl)) ?_;(with_reducible refine (spec_l11Text.calls k a0_0 a0_1 a0_2 t117 _ A9.out).mono ?_);rintro e w12 ⟨rfl,hb⟩;refine ⟨_,rfl,?_⟩;have n0_:=aMk (blk_below (g:=gb114) (o:=.cells #[.string a0_0,.string a0_1,.string a0_2] 27 (0,0)) (by (with_reducible repeat (first|refine bDn ?_ _|refine bDr ?_|refine bAl ?_ _));exact BK114.out) hb);have n1_:=aMk (below_step (by repeat (first|(with_reducible first|exact HB.out|apply bwA|apply bwN|apply bw1|refine below_set ?_ GE114.out)|exact HB.out)) hb);clear BK114;clear HB;have BK114:=n0_;have HB:=n1_;clear n0_ n1_;(try clear hb);(try clear hb2);(try clear hk);(try clear hi)))
    go_ret2
    exact ⟨by first | rfl|(simp [errW_none,errW_some] <;> rfl)|(simp [*,errW_none,errW_some] <;> rfl),by repeat (first|(with_reducible first|exact HB.out|apply bwA|apply bwN|apply bw1|refine below_set ?_ GE114.out)|exact HB.out)⟩
  ·replace c5:=Bool.eq_false_iff.mpr c5
   subst c5
   have H1 : (some ((⟨#[]⟩ : ByteArray),1)) = some (r1,r2):=by rw [if_neg (show ¬ (false = true) by decide)] at H;exact H
   clear H
   have H:=H1
   clear H1
   simp only [Option.some.injEq,Prod.mk.injEq] at H
   obtain ⟨rfl,rfl⟩:=H
   go_enter Tryd.func9,Tryd.ntmps9
   go_wp2_with (first|((with_reducible refine gate_dst (N:=1) rfl ?_);(try (refine gate_guard (by rfl) ?_;dsimp only));refine box_event ?hg (N:=1) ?hd (cs:=#[.string a0_0,.string a0_1,.string a0_2]) (t:=27) ?hr ?_;(case hd => rfl);(case hg => rfl);(case hr => first|(go_simp;done)|(go_simp;rfl));intro gb114 hg w13 hbox hb;have n0_:=aMk (below_step (by repeat first|exact HB.out|apply bwA|apply bwN|apply bw1) hb);have n1_:=aMk (hbox);have n2_:=aMk ((by rw [hg];exact (below_size (by repeat first|exact HB.out|apply bwA|apply bwN|apply bw1)) : w.heap.size ≤ gb114));have n3_:=aMk ((by rw [hg];exact (below_size (by repeat first|exact HB.out|apply bwA|apply bwN|apply bw1)) : w.heap.size ≤ gb114));clear HB;have HB:=n0_;have BK114:=n1_;have GW114:=n2_;have GE114:=n3_;clear n0_ n1_ n2_ n3_;clear hb hbox hg;have hcz14_0 : w13.cell? ⟨gb114,0,none⟩ = some (.string a0_0):=(bCe BK114.out 0).trans rfl;have hcz14_1 : w13.cell? ⟨gb114,1,none⟩ = some (.string a0_1):=(bCe BK114.out 1).trans rfl;have hcz14_2 : w13.cell? ⟨gb114,2,none⟩ = some (.string a0_2):=(bCe BK114.out 2).trans rfl;have hfz14_0:=bFr BK114.out 0;have hfz14_1:=bFr BK114.out 1;have hfz14_2:=bFr BK114.out 2)|((with_reducible refine gate_callee (f:=32) rfl ?_);refine goesL_ (some 6) rfl rfl Tryd.func32 (by kernel_rfl) rfl #[.string a0_0] rfl (by (try simp only [List.map_toArray,List.map_cons,List.map_nil]);first | done | rfl|(simp only [List.length_drop,List.length_take];rfl)) ?_;(with_reducible refine (spec_l11Method.calls a0_0 true _ A2.out).mono ?_);rintro e w' ⟨rfl,⟨nd,rfl⟩⟩;refine ⟨_,rfl,?_⟩)|(go_at_call 33;(with_reducible refine (spec_l11Path.calls k a0_1 false _ A4.out).mono ?_);rintro e w' ⟨rfl,⟨nd,rfl⟩⟩))
   go_ret2
   exact ⟨by first | rfl|(simp [errW_none,errW_some] <;> rfl)|(simp [*,errW_none,errW_some] <;> rfl),by repeat (first|(with_reducible first|exact HB.out|apply bwA|apply bwN|apply bw1|refine below_set ?_ GE114.out)|exact HB.out)⟩
 ·replace c3:=Bool.eq_false_iff.mpr c3
  subst c3
  have H1 : (some ((⟨#[]⟩ : ByteArray),1)) = some (r1,r2):=by rw [if_neg (show ¬ (false = true) by decide)] at H;exact H
  clear H
  have H:=H1
  clear H1
  simp only [Option.some.injEq,Prod.mk.injEq] at H
  obtain ⟨rfl,rfl⟩:=H
  go_enter Tryd.func9,Tryd.ntmps9
  go_wp2_with (first|((with_reducible refine gate_dst (N:=1) rfl ?_);(try (refine gate_guard (by rfl) ?_;dsimp only));refine box_event ?hg (N:=1) ?hd (cs:=#[.string a0_0,.string a0_1,.string a0_2]) (t:=27) ?hr ?_;(case hd => rfl);(case hg => rfl);(case hr => first|(go_simp;done)|(go_simp;rfl));intro gb114 hg w15 hbox hb;have n0_:=aMk (below_step (by repeat first|exact HB.out|apply bwA|apply bwN|apply bw1) hb);have n1_:=aMk (hbox);have n2_:=aMk ((by rw [hg];exact (below_size (by repeat first|exact HB.out|apply bwA|apply bwN|apply bw1)) : w.heap.size ≤ gb114));have n3_:=aMk ((by rw [hg];exact (below_size (by repeat first|exact HB.out|apply bwA|apply bwN|apply bw1)) : w.heap.size ≤ gb114));clear HB;have HB:=n0_;have BK114:=n1_;have GW114:=n2_;have GE114:=n3_;clear n0_ n1_ n2_ n3_;clear hb hbox hg;have hcz16_0 : w15.cell? ⟨gb114,0,none⟩ = some (.string a0_0):=(bCe BK114.out 0).trans rfl;have hcz16_1 : w15.cell? ⟨gb114,1,none⟩ = some (.string a0_1):=(bCe BK114.out 1).trans rfl;have hcz16_2 : w15.cell? ⟨gb114,2,none⟩ = some (.string a0_2):=(bCe BK114.out 2).trans rfl;have hfz16_0:=bFr BK114.out 0;have hfz16_1:=bFr BK114.out 1;have hfz16_2:=bFr BK114.out 2)|((with_reducible refine gate_callee (f:=32) rfl ?_);refine goesL_ (some 6) rfl rfl Tryd.func32 (by kernel_rfl) rfl #[.string a0_0] rfl (by (try simp only [List.map_toArray,List.map_cons,List.map_nil]);first | done | rfl|(simp only [List.length_drop,List.length_take];rfl)) ?_;(with_reducible refine (spec_l11Method.calls a0_0 false _ A2.out).mono ?_);rintro e w' ⟨rfl,⟨nd,rfl⟩⟩;refine ⟨_,rfl,?_⟩))
  go_ret2
  exact ⟨by first | rfl|(simp [errW_none,errW_some] <;> rfl)|(simp [*,errW_none,errW_some] <;> rfl),by repeat (first|(with_reducible first|exact HB.out|apply bwA|apply bwN|apply bw1|refine below_set ?_ GE114.out)|exact HB.out)⟩
end
section
-- NEEDS spec.RequestText impl.RequestText spec.l11Text impl.requestText strconv.Itoa spec.l00Digits spec.l11Path impl.pathOK spec.l11Method impl.methodOK impl.requestOK
theorem lit_size (a : Array UInt8) : (⟨a⟩ : ByteArray).size = a.size:=rfl
theorem app_lit (x : ByteArray) (a b : Array UInt8) : (x ++ (⟨a⟩ : ByteArray)) ++ (⟨b⟩ : ByteArray) = x ++ (⟨a ++ b⟩ : ByteArray):=by
 apply ByteArray.ext
 rw [ByteArray.data_append,ByteArray.data_append,ByteArray.data_append,Array.append_assoc]
end
section
-- NEEDS spec.PageText impl.PageText spec.l11Page impl.page strconv.Itoa spec.l00Digits spec.l11Path impl.pathOK spec.StatusWord impl.StatusWord
theorem pageLit : (#[13,10] ++ #[67,111,110,110,101,99,116,105,111,110,58,32,99,108,111,115,101] ++ #[13,10,13,10] : Array UInt8) =
  #[13,10,67,111,110,110,101,99,116,105,111,110,58,32,99,108,111,115,101,13,10,13,10]:=by decide
theorem status_both (n : Int) : ∃ s,spec_StatusWord.f n = some s ∧ impl_StatusWord.f n = some s ∧ s.size ≤ 30 ∧ (¬ s.toList = [] → 0 ≤ n ∧ n ≤ 1000):=by
 have he : ¬¬ (⟨#[]⟩ : ByteArray).toList = []:=fun h => h (by rw [Lib.toList_data])
 unfold spec_StatusWord.f impl_StatusWord.f
 by_cases h1 : n = 200
 ·simp only [if_pos h1];exact ⟨_,rfl,rfl,by decide,fun _ => by omega⟩
 by_cases h2 : n = 302
 ·simp only [if_neg h1,if_pos h2];exact ⟨_,rfl,rfl,by decide,fun _ => by omega⟩
 by_cases h3 : n = 400
 ·simp only [if_neg h1,if_neg h2,if_pos h3];exact ⟨_,rfl,rfl,by decide,fun _ => by omega⟩
 by_cases h4 : n = 403
 ·simp only [if_neg h1,if_neg h2,if_neg h3,if_pos h4];exact ⟨_,rfl,rfl,by decide,fun _ => by omega⟩
 by_cases h5 : n = 404
 ·simp only [if_neg h1,if_neg h2,if_neg h3,if_neg h4,if_pos h5];exact ⟨_,rfl,rfl,by decide,fun _ => by omega⟩
 by_cases h6 : n = 429
 ·simp only [if_neg h1,if_neg h2,if_neg h3,if_neg h4,if_neg h5,if_pos h6];exact ⟨_,rfl,rfl,by decide,fun _ => by omega⟩
 by_cases h7 : n = 503
 ·simp only [if_neg h1,if_neg h2,if_neg h3,if_neg h4,if_neg h5,if_neg h6,if_pos h7];exact ⟨_,rfl,rfl,by decide,fun _ => by omega⟩
 ·simp only [if_neg h1,if_neg h2,if_neg h3,if_neg h4,if_neg h5,if_neg h6,if_neg h7];exact ⟨_,rfl,rfl,by decide,fun h => absurd h he⟩
theorem page_both (n : Int) (a b : ByteArray) (h0 : 0 ≤ n) (h1 : n ≤ 1000) (h2 : a.size ≤ 1000000) (h3 : b.size ≤ 1000000) : ∃ r,impl_page.f n a b = some r ∧ ∀ k,20 ≤ k → spec_l11Page.f k n a b = some r:=by
 obtain ⟨s,s1,s2,s3,_⟩:=status_both n
 obtain ⟨n,rfl⟩ : ∃ q : Nat,n = q:=⟨n.toNat,by omega⟩
 have hd:=fun k hk => l00Digits_run 18 b.size (by omega) (by decide) (by decide) k hk
 have hn:=fun k hk => l00Digits_run 18 n (by omega) (by decide) (by decide) k hk
 have hi:=itoa_f (b.size : Int) (by omega) (by omega)
 have hj:=itoa_f (n : Int) (by omega) (by omega)
 rw [itoa_nat] at hi hj
 have hl:=(hd 18 (by decide)).2
 have hm:=(hn 18 (by decide)).2
 have hd':=fun k hk => (hd k hk).1
 have hn':=fun k hk => (hn k hk).1
 clear hd hn
 have hDs : (⟨(Lib.decDigits b.size).toArray⟩ : ByteArray).size ≤ 18:=by rw [mk_size];exact hl
 have hEs : (⟨(Lib.decDigits n).toArray⟩ : ByteArray).size ≤ 18:=by rw [mk_size];exact hm
 generalize (⟨(Lib.decDigits b.size).toArray⟩ : ByteArray) = d at hd' hi hDs
 generalize (⟨(Lib.decDigits n).toArray⟩ : ByteArray) = e at hn' hj hEs
 by_cases ha : a.toList = ([] : List UInt8)
 all_goals
  have e0 : ∃ r,impl_page.f n a b = some r:=⟨_,by
   rw [impl_page.f]
   simp only [hi,hj,s1,s2,Option.bind_some,ha,if_true,if_false]
   repeat rw [if_pos (by (try simp only [ByteArray.size_append,lit_size,List.size_toArray,List.length_cons,List.length_nil]);omega)]⟩
  have e1 : ∀ k,20 ≤ k → spec_l11Page.f k n a b = impl_page.f n a b:=fun k hk => by
   rw [impl_page.f,spec_l11Page.f]
   simp only [hi,hj,s1,s2,hd' k (by omega),hn' k (by omega),Option.bind_some,ha,if_true,if_false]
   repeat rw [if_pos (by (try simp only [ByteArray.size_append,lit_size,List.size_toArray,List.length_cons,List.length_nil]);omega)]
   simp only [app_lit,pageLit]
  obtain ⟨r,e0⟩:=e0
  exact ⟨r,e0,fun k hk => (e1 k hk).trans e0⟩
end
section
-- NEEDS (*spec.l00Src).byte (*spec.l00Src).next
def okSrc (code : List Int) (a s : Int) : Prop:=(∀ y ∈ code,0 ≤ y ∧ y ≤ 255) ∧ code.length ≤ 1048576 ∧ 0 ≤ a ∧ a ≤ 1000000000000 ∧ 0 ≤ s ∧ s < 2147483648
theorem src_rd {code : List Int} (h : ∀ y ∈ code,0 ≤ y ∧ y ≤ 255) (i : Int) : 0 ≤ rd code i ∧ rd code i ≤ 255:=by
 unfold rd
 rw [List.getD_eq_getElem?_getD]
 cases e : code[i.toNat]? with
 | none => decide
 | some y => exact h y (List.mem_of_getElem? e)
theorem src_byte {code : List Int} {a s : Int} (h : okSrc code a s) : ∃ b t,spec_l00Src_byte.f code a s = some (b,a + 1,t) ∧ 0 ≤ b ∧ b ≤ 255 ∧ 0 ≤ t ∧ t < 2147483648:=by
 obtain ⟨hc,hl,h0,h1,h2,h3⟩:=h
 have hr:=src_rd hc a
 unfold spec_l00Src_byte.f
 rw [wrap_id (n:=a + 1) (by omega) (by omega)]
 by_cases c1 : a + 1 ≤ (code.length : Int)
 ·rw [if_pos c1,if_pos (by omega),wrap_id (n:=a + 1 - 1) (by omega) (by omega),show a + 1 - 1 = a by omega]
  generalize rd code a = y at hr
  rw [wrap_id (n:=y) (by omega) (by omega),wrap_id (n:=s * 31) (by omega) (by omega),wrap_id (n:=s * 31 + y) (by omega) (by omega),wrap_id (n:=s * 31 + y + 7) (by omega) (by omega),Int.tmod_eq_emod_of_nonneg (by omega)]
  exact ⟨y,_,rfl,by omega,by omega,by omega,by omega⟩
 ·rw [if_neg c1]
  by_cases c2 : a + 1 > 3000
  ·rw [if_pos c2]
   exact ⟨0,s,rfl,by omega,by omega,h2,h3⟩
  ·rw [if_neg c2,wrap_id (n:=s * 1103515245) (by omega) (by omega),wrap_id (n:=s * 1103515245 + 12345) (by omega) (by omega),Int.tmod_eq_emod_of_nonneg (a:=s * 1103515245 + 12345) (by omega)]
   have ht : 0 ≤ (s * 1103515245 + 12345) % 2147483648 ∧ (s * 1103515245 + 12345) % 2147483648 < 2147483648:=by omega
   generalize (s * 1103515245 + 12345) % 2147483648 = t at ht
   rw [Int.tdiv_eq_ediv_of_nonneg (by omega),wrap_id (n:=t / 65536) (by omega) (by omega),Int.tmod_eq_emod_of_nonneg (by omega)]
   exact ⟨_,t,rfl,by omega,by omega,by omega,by omega⟩
theorem src_next {code : List Int} {a s : Int} (h : okSrc code a s) (n : Int) (h1 : 2 ≤ n) (h2 : n ≤ 256) : ∃ b t,spec_l00Src_next.f code a s n = some (b,a + 1,t) ∧ 0 ≤ b ∧ b < n ∧ 0 ≤ t ∧ t < 2147483648:=by
 obtain ⟨b,t,e,b0,b1,t0,t1⟩:=src_byte h
 unfold spec_l00Src_next.f
 rw [if_neg (by omega),if_pos h2,e,Option.bind_some,if_neg (by omega),Int.tmod_eq_emod_of_nonneg b0]
 exact ⟨_,t,rfl,Int.emod_nonneg _ (by omega),Int.emod_lt_of_pos _ (by omega),t0,t1⟩
theorem okSrc.on {code : List Int} {a s : Int} (h : okSrc code a s) {t : Int} (ha : a ≤ 999999999999) (t0 : 0 ≤ t) (t1 : t < 2147483648) : okSrc code (a + 1) t:=⟨h.1,h.2.1,by have:=h.2.2.1;omega,by omega,t0,t1⟩
theorem okSrc.begin {code : List Int} (h : ∀ y ∈ code,0 ≤ y ∧ y ≤ 255) (hl : code.length ≤ 1048576) : okSrc code 0 ((code.length : Int) % 1000):=⟨h,hl,by omega,by omega,by omega,by omega⟩
end
section
-- NEEDS spec.FormOf spec.BytesOf (*spec.l00Src).pick (*spec.l00Src).formPairs (*spec.l00Src).bytes spec.l00Source impl.FormText impl.PageText spec.PageText
theorem pick_ev {code : List Int} {a s : Int} (h : okSrc code a s) (l : List ByteArray) (h1 : 2 ≤ l.length) (h2 : l.length ≤ 256) : ∃ x t,spec_l00Src_pick.f code a s l = some (x,a + 1,t) ∧ x ∈ l ∧ 0 ≤ t ∧ t < 2147483648:=by
 obtain ⟨b,t,e,b0,b1,t0,t1⟩:=src_next h (l.length : Int) (by omega) (by omega)
 obtain ⟨n,rfl⟩ : ∃ n : Nat,b = n:=⟨b.toNat,by omega⟩
 have hn : n < l.length:=by omega
 rw [spec_l00Src_pick.f,if_neg (by omega),e,Option.bind_some,if_pos b0,if_pos b1,rdOf_at l n hn]
 exact ⟨l[n],t,rfl,List.getElem_mem hn,t0,t1⟩
theorem pairs_run (code : List Int) : ∀ (d : Nat) (acc : List S55) (a s : Int),okSrc code a s → a + 2 * d ≤ 1000000 → acc.length + d ≤ 100 → (∀ p ∈ acc,goodP p) →
  ∃ L a' s',L.length = acc.length + d ∧ (∀ p ∈ L,goodP p) ∧ ∀ k,d < k → spec_l00Src_formPairs.l0 k acc (d : Int) code a s = some (L,a',s')
 | 0,acc,a,s,h,ha,hl,hg => ⟨acc,a,s,rfl,hg,fun k hk => by
  obtain ⟨k,rfl⟩ : ∃ q,k = q + 1:=⟨k - 1,by omega⟩
  rw [spec_l00Src_formPairs.l0,if_neg (by omega)]⟩
 | d + 1,acc,a,s,h,ha,hl,hg => by
  obtain ⟨x,t,e,hx,t0,t1⟩:=pick_ev h [(⟨#[97]⟩ : ByteArray),(⟨#[107,101,121,32,120]⟩ : ByteArray),(⟨#[38,61]⟩ : ByteArray)] (by decide) (by decide)
  obtain ⟨y,u,e2,hy,u0,u1⟩:=pick_ev (h.on (by omega) t0 t1) [(⟨#[]⟩ : ByteArray),(⟨#[118,97,108,117,101]⟩ : ByteArray),(⟨#[97,32,98,38,99,61,100]⟩ : ByteArray),(⟨#[0,255,37,43]⟩ : ByteArray)] (by decide) (by decide)
  have hgx : goodP (⟨x,y⟩ : S55):=by
   have h3 : 0 < x.size ∧ x.size ≤ 40:=by
    simp only [List.mem_cons,List.mem_nil_iff,or_false] at hx
    rcases hx with rfl | rfl | rfl <;> decide
   have h4 : y.size ≤ 40:=by
    simp only [List.mem_cons,List.mem_nil_iff,or_false] at hy
    rcases hy with rfl | rfl | rfl | rfl <;> decide
   exact ⟨h3.1,h3.2,h4⟩
  obtain ⟨L,a',s',hL,hgL,hk⟩:=pairs_run code d (acc ++ [⟨x,y⟩]) (a + 1 + 1) u ((h.on (by omega) t0 t1).on (by omega) u0 u1) (by omega) (by simp;omega) (fun p hp => by
   rcases List.mem_append.1 hp with hp | hp
   ·exact hg p hp
   ·rw [List.mem_singleton.1 hp]
    exact hgx)
  refine ⟨L,a',s',by rw [hL,List.length_append,List.length_singleton];omega,hgL,fun k hk2 => ?_⟩
  obtain ⟨k,rfl⟩ : ∃ q,k = q + 1:=⟨k - 1,by omega⟩
  have w : wrap64 (((d + 1 : Nat) : Int) - 1) = (d : Int):=by rw [wrap_id (by omega) (by omega)];omega
  have x1 : ((d + 1 : Nat) : Int) > 0:=by omega
  have x2 : acc.length < 4398046511104:=by omega
  rw [spec_l00Src_formPairs.l0,if_pos x1,e,Option.bind_some]
  dsimp only
  rw [e2,Option.bind_some]
  dsimp only
  rw [if_pos x2,w]
  exact hk k (by omega)
theorem FormOf_ev (code : List Int) (hc : ∀ y ∈ code,0 ≤ y ∧ y ≤ 255) (hl : code.length ≤ 1048576) : ∃ L : List S55,L.length ≤ 8 ∧ (∀ p ∈ L,goodP p) ∧ ∀ k,10 ≤ k → spec_FormOf.f k code = some L:=by
 have h:=okSrc.begin hc hl
 obtain ⟨b,t,e,b0,b1,t0,t1⟩:=src_next h 4 (by decide) (by decide)
 obtain ⟨n,rfl⟩ : ∃ n : Nat,b = n:=⟨b.toNat,by omega⟩
 obtain ⟨L,a',s',hL,hg,hk⟩:=pairs_run code n [] (0 + 1) t (h.on (by decide) t0 t1) (by omega) (by simp;omega) (fun p hp => by cases hp)
 refine ⟨L,by rw [hL];simp;omega,hg,fun k hk2 => ?_⟩
 rw [spec_FormOf.f,spec_l00Source.f,Option.bind_some]
 dsimp only
 rw [spec_l00Src_formPairs.f,e,Option.bind_some]
 dsimp only
 rw [hk k (by omega)]
 rfl
theorem bytes_run (code : List Int) : ∀ (d : Nat) (acc : List Int) (a s : Int),okSrc code a s → a + d ≤ 1000000 → acc.length + d ≤ 1000 → (∀ p ∈ acc,0 ≤ p ∧ p ≤ 255) →
  ∃ L a' s',L.length = acc.length + d ∧ (∀ p ∈ L,0 ≤ p ∧ p ≤ 255) ∧ ∀ k,d < k → spec_l00Src_bytes.l0 k acc (d : Int) code a s = some (L,a',s')
 | 0,acc,a,s,h,ha,hl,hg => ⟨acc,a,s,rfl,hg,fun k hk => by
  obtain ⟨k,rfl⟩ : ∃ q,k = q + 1:=⟨k - 1,by omega⟩
  rw [spec_l00Src_bytes.l0,if_neg (by omega)]⟩
 | d + 1,acc,a,s,h,ha,hl,hg => by
  obtain ⟨x,t,e,b0,b1,t0,t1⟩:=src_next h 256 (by decide) (by decide)
  obtain ⟨L,a',s',hL,hgL,hk⟩:=bytes_run code d (acc ++ [x % 256]) (a + 1) t (h.on (by omega) t0 t1) (by omega) (by simp;omega) (fun p hp => by
   rcases List.mem_append.1 hp with hp | hp
   ·exact hg p hp
   ·rw [List.mem_singleton.1 hp]
    omega)
  refine ⟨L,a',s',by rw [hL,List.length_append,List.length_singleton];omega,hgL,fun k hk2 => ?_⟩
  obtain ⟨k,rfl⟩ : ∃ q,k = q + 1:=⟨k - 1,by omega⟩
  have w : wrap64 (((d + 1 : Nat) : Int) - 1) = (d : Int):=by rw [wrap_id (by omega) (by omega)];omega
  have x1 : ((d + 1 : Nat) : Int) > 0:=by omega
  have x2 : acc.length < 140737488355328:=by omega
  rw [spec_l00Src_bytes.l0,if_pos x1,e,Option.bind_some]
  dsimp only
  rw [if_pos x2,w]
  exact hk k (by omega)
theorem BytesOf_ev (code : List Int) (hc : ∀ y ∈ code,0 ≤ y ∧ y ≤ 255) (hl : code.length ≤ 1048576) : ∃ L : List Int,L.length ≤ 30 ∧ (∀ p ∈ L,0 ≤ p ∧ p ≤ 255) ∧ ∀ k,100 ≤ k → spec_BytesOf.f k code 30 = some L:=by
 have h:=okSrc.begin hc hl
 obtain ⟨b,t,e,b0,b1,t0,t1⟩:=src_next h 31 (by decide) (by decide)
 obtain ⟨n,rfl⟩ : ∃ n : Nat,b = n:=⟨b.toNat,by omega⟩
 obtain ⟨L,a',s',hL,hg,hk⟩:=bytes_run code n [] (0 + 1) t (h.on (by decide) t0 t1) (by omega) (by simp;omega) (fun p hp => by cases hp)
 refine ⟨L,by rw [hL];simp;omega,hg,fun k hk2 => ?_⟩
 have w : wrap64 (30 + 1) = 31:=by rw [wrap_id (by omega) (by omega)];rfl
 rw [spec_BytesOf.f,spec_l00Source.f,Option.bind_some]
 dsimp only
 rw [spec_l00Src_bytes.f,w,e,Option.bind_some]
 dsimp only
 rw [hk k (by omega)]
 rfl
theorem page_fine (b : ByteArray) (hb : b.size ≤ 100) : ∃ r,∀ k,100 ≤ k → spec_PageText.f k 200 (⟨#[]⟩ : ByteArray) b = some (r,0) ∧ impl_PageText.f k 200 (⟨#[]⟩ : ByteArray) b = some (r,0):=by
 obtain ⟨r,i1,p1⟩:=page_both 200 (⟨#[]⟩ : ByteArray) b (by decide) (by decide) (by decide) (by omega)
 have h0 : (⟨#[]⟩ : ByteArray).toList = ([] : List UInt8):=by rw [Lib.toList_data]
 have hs : spec_StatusWord.f 200 = some (⟨#[79,75]⟩ : ByteArray):=rfl
 have hi : impl_StatusWord.f 200 = some (⟨#[79,75]⟩ : ByteArray):=rfl
 have h1 : ¬ (⟨#[79,75]⟩ : ByteArray).toList = ([] : List UInt8):=by rw [Lib.toList_data];decide
 have z : ¬ (((⟨#[]⟩ : ByteArray).size : Int) > 65536):=by decide
 have z2 : decide ((b.size : Int) > 65536) = false:=decide_eq_false (by omega)
 have z3 : ¬ ((b.size : Int) > 100):=by omega
 refine ⟨r,fun k hk => ?_⟩
 obtain ⟨k,rfl⟩ : ∃ q,k = q + 1:=⟨k - 1,by omega⟩
 have p2:=p1 k (by omega)
 simp only [spec_PageText.f,impl_PageText.f,if_neg z,z2,spec_PageText.j0,impl_PageText.j0,Bool.false_eq_true,if_false,hs,hi,Option.bind_some,if_neg h1,if_pos h0,if_neg z3,p2,i1]
 trivial
end
section
def P_FnForms : Prop:=∀ (a0 : List Int) (a1 : List Int),(a0.length * 1 ≤ 140737488351232 ∧ a0.length ≤ maxLen ∧ ∀ y ∈ a0,(Lit.int .u8 y).wf = true) → (a1.length * 1 ≤ 140737488351232 ∧ a1.length ≤ maxLen ∧ ∀ y ∈ a1,(Lit.int .u8 y).wf = true) → ∃ k,laws_FnForms.f k a0 a1 = some true
end
section
-- NEEDS laws.FnForms
theorem pure_FnForms : P_FnForms:=by
 intro a0 a1 h0 h1
 obtain ⟨N,hN⟩ : ∃ N,N = 40000:=⟨_,rfl⟩
 refine ⟨N + 1,?_⟩
 rw [laws_FnForms.f]
 have hT : laws_FnForms.j0 (N + 1) a0 a1 true = some true:=by rw [laws_FnForms.j0,if_pos rfl]
 by_cases c0 : (a0.length : Int) > 1048576
 ·rw [if_pos c0,hT]
 by_cases c1 : (a1.length : Int) > 1048576
 ·rw [if_neg c0,decide_eq_true c1,hT]
 rw [if_neg c0,decide_eq_false c1]
 obtain ⟨L,hL,hg,hk⟩:=FormOf_ev a0 (fun y hy => bndu8 (h0.2.2 y hy)) (by omega)
 obtain ⟨B,hB,hb,hk2⟩:=BytesOf_ev a1 (fun y hy => bndu8 (h1.2.2 y hy)) (by omega)
 have f1:=hk N (by omega)
 have f2:=hk2 N (by omega)
 obtain ⟨t1,t2⟩:=FormText_back L hL hg N (by omega)
 have rf:=ReadForm_back L hL hg N (by omega)
 have sp:=samePairs_ev L (by omega) N (by omega)
 have hx : (strOfNums B).size ≤ 30:=by rw [un_size];exact hB
 obtain ⟨x,hxB⟩ : ∃ x,strOfNums B = x:=⟨_,rfl⟩
 rw [hxB] at hx
 obtain ⟨e1,e2⟩:=esc_ev x (by omega) N (by omega)
 have u1:=UnescapeText_back x (by omega) N (by omega)
 have u2:=UnescapeText_half x (by omega) N (by omega)
 have hes:=escT_size x
 have i1 : impl_EscapeText.f N x = some (escT x,0):=by rw [impl_EscapeText.f,if_neg (by omega),if_neg (by omega),e2];rfl
 have i2 : spec_EscapeText.f N x = some (escT x,0):=by rw [spec_EscapeText.f,if_neg (by omega),if_neg (by omega),e1];rfl
 obtain ⟨r,hr⟩:=page_fine (⟨#[98,111,100,121]⟩ : ByteArray) (by decide)
 obtain ⟨p1,p2⟩:=hr N (by omega)
 have z : (escT x).size + 2 ≤ 9223372036854775807:=by omega
 have s1 : impl_StatusWord.f 404 = some (⟨#[78,111,116,32,70,111,117,110,100]⟩ : ByteArray):=rfl
 have s2 : spec_StatusWord.f 404 = some (⟨#[78,111,116,32,70,111,117,110,100]⟩ : ByteArray):=rfl
 clear hN
 simp only [laws_FnForms.j0,Bool.false_eq_true,if_false,f1,f2,hxB,t1,t2,rf,sp,i1,i2,u1,u2,p1,p2,s1,s2,Option.bind_some,if_pos z,if_true,beq_self_eq_true]
end
section
-- IMPORT Derived.Test.YticjbpkgdbacpaaDoorRows
-- IMPORT Derived.Test.YticjbpkgdbacpaaDoorCards
-- IMPORT Derived.Test.YticjbpkgdbacpaaDoorTie
-- IMPORT Derived.LaidMore
-- IMPORT Derived.Lay
-- IMPORT Derived.SevenTiedAt
-- IMPORT Derived.Stop.Joined
-- IMPORT Derived.Stop.LaidErr
-- IMPORT Derived.Handed
-- IMPORT Derived.Lib.LaidTab
-- IMPORT Derived.Lib.ItoaNum
-- IMPORT Derived.WalkKit
-- IMPORT Derived.ProofKit
-- IMPORT Derived.OpenShut
-- IMPORT Derived.ShutString
-- IMPORT Derived.ChangeOld
-- IMPORT Derived.Below
-- IMPORT Derived.SizedLaws
open Go.ChangeShapes Go.WideShapes Go.ChangeAt
open Go.ChangeMaps (open_string shut_string)
theorem own_FnForms : ownKnob Tryd.prog.godebug = none:=by kernel_rfl
theorem laidOut_FnForms : laidOutB Tryd.prog = true:=by kernel_rfl
noncomputable def laidL_FnForms : List (String × DataW Unit):=Rows.fnFormsRow.laid
set_option maxHeartbeats 4000000 in
set_option maxRecDepth 100000 in
theorem lifted_FnForms (os : Os) (started : os.Started) (H : Type) (enc : TypeId × Value → H) :
  ReturnsInHanded {} Tryd.checked os 6 .any (fun w args => (Rows.fnFormsSpec.pre enc Tryd.prog Tryd.f6 Rows.fnFormsRow.domain false w args ∧ laidMetH Tryd.prog laidL_FnForms w) ∧ sizedMet enc Tryd.prog Tryd.f6 (OpenSpec.ofChange Rows.fnFormsSpec) false w args) (Rows.fnFormsSpec.post enc Tryd.prog Tryd.f6 false true false false):=by
 refine returnsInHanded_of_change_and (C:=Tryd.checked) (X:=fun w _ => laidMetH Tryd.prog laidL_FnForms w) (fun _ _ _ hh h => h.of_heap hh) own_FnForms started (by kernel_rfl) Tryd.func6
  (ChangeSpec.witness_shaped (enc:=enc) (C:=Tryd.checked) (os:=os) (X:=fun w _ => laidMetH Tryd.prog laidL_FnForms w) false (World.laidAll Tryd.prog os laidL_FnForms) #[.slice none 0 0,.slice none 0 0] 8 (World.laidAll_os _ _ _)
   (World.shaped_of_ZipB (by kernel_rfl) (by kernel_rfl)) (by kernel_rfl) (by kernel_rfl) (by kernel_rfl) (by rw [MakeChecks.laidMetH_plain _ _ _ (by kernel_rfl)];exact laidMet_laidAll _ (by kernel_rfl) (by kernel_rfl))) ?_
 intro W base args ds gs before hval0 hW hcnd hsz0 hL _
 have hsz : (DataW.weightsEach Tryd.prog (Tryd.f6.params.toList ++ Rows.fnFormsSpec.plain.varTypes Tryd.prog) (ds ++ gs)).all (· ≤ reachBytes) = true:=hsz0
 have hval : ∀ (j : Nat) t v,Tryd.f6.params[j]? = some t → args[j]? = some v → Value.okWide Tryd.prog W .any base t v:=hval0
 have hW':=hW
 obtain ⟨p,q,hA0,hV,rfl,hfz,hnd⟩:=hW
 have hA : DataW.TrodAll enc Tryd.prog W 0 (fun _ => true) true Tryd.f6.params.toList args.toList ds p:=hA0
 rw [Tryd.params6] at hA hval hsz
 obtain ⟨v0,vs0,d0,ds0,p0,q0,hargs,rfl,rfl,h0,r0⟩:=trodAll_cons hA
 obtain ⟨v1,vs1,d1,ds1,p1,q1,rfl,rfl,rfl,h1,r1⟩:=trodAll_cons r0
 obtain ⟨rfl,rfl,rfl⟩:=trodAll_nil r1
 obtain rfl : args = #[v0,v1]:=by cases args;simp_all
 obtain ⟨rfl,rfl⟩:=trodVars_none hV
 have k0:=h0
 have lt0 : ∀ x ∈ p0,x.block < W.heap.size:=by obtain ⟨m,hm⟩:=k0;exact DataW.trod_lt m _ _ _ hm
 obtain ⟨A0,n0,c0,rfl⟩:=okWide_slice Tryd.underlying38 (hval 0 38 v0 rfl rfl)
 obtain ⟨fuel0,hf0⟩:=h0
 obtain ⟨a0,⟨A0',c0',e0,hl0,hc0⟩,w0⟩:=(Opens.slice Tryd.underlying38 (by kernel_rfl) 1 (by kernel_rfl) (Opens.int Tryd.underlying5 (by kernel_rfl))).op hf0 (fun n hn => by have z:=List.all_eq_true.1 hsz _ (DataW.weights_mem_each (j:=0) (t:=38) rfl rfl n hn);simpa using z)
 simp only [Value.cells,List.cons.injEq,Value.slice.injEq,and_true] at e0
 obtain ⟨rfl,rfl,rfl⟩:=e0
 have k1:=h1
 have lt1 : ∀ x ∈ p1,x.block < W.heap.size:=by obtain ⟨m,hm⟩:=k1;exact DataW.trod_lt m _ _ _ hm
 obtain ⟨A1,n1,c1,rfl⟩:=okWide_slice Tryd.underlying38 (hval 1 38 v1 rfl rfl)
 obtain ⟨fuel1,hf1⟩:=h1
 obtain ⟨a1,⟨A1',c1',e1,hl1,hc1⟩,w1⟩:=(Opens.slice Tryd.underlying38 (by kernel_rfl) 1 (by kernel_rfl) (Opens.int Tryd.underlying5 (by kernel_rfl))).op hf1 (fun n hn => by have z:=List.all_eq_true.1 hsz _ (DataW.weights_mem_each (j:=1) (t:=38) rfl rfl n hn);simpa using z)
 simp only [Value.cells,List.cons.injEq,Value.slice.injEq,and_true] at e1
 obtain ⟨rfl,rfl,rfl⟩:=e1
 have hL1:=hL
 rw [MakeChecks.laidMetH_plain _ _ _ (by kernel_rfl)] at hL1
 have hL2 : laidMet Tryd.prog [("math/bits.deBruijn32tab",Rows.laid_math_bits_deBruijn32tab),("math/bits.deBruijn64tab",Rows.laid_math_bits_deBruijn64tab),("internal/strconv.uint64pow10",Rows.laid_internal_strconv_uint64pow10),("unicode/utf8.acceptRanges",Rows.laid_unicode_utf8_acceptRanges),("unicode/utf8.first",Rows.laid_unicode_utf8_first)] W:=hL1
 have hL3 : laidMet Tryd.prog (("internal/strconv.uint64pow10",Lib.tabData .u64 Lib.pow10Tab) :: [("unicode/utf8.acceptRanges",Rows.laid_unicode_utf8_acceptRanges),("unicode/utf8.first",Rows.laid_unicode_utf8_first)]) W:=by
  have e_ : (Rows.laid_internal_strconv_uint64pow10 : DataW Unit) = Lib.tabData .u64 Lib.pow10Tab:=by kernel_rfl
  have h_:=laidMet.tail (laidMet.tail (hL2))
  rw [e_] at h_
  exact h_
 have hGp : GLp W:=Lib.tabIs_of_head (g:=1) (t:=122) (e:=109) (n:=20) (by kernel_rfl) (by kernel_rfl) (by kernel_rfl) (by kernel_rfl) (by kernel_rfl) (by kernel_rfl) hL3
 clear hL1 hL2 hL3
 clear hL
 clear hA0 hval0 hsz0 hsz
 obtain ⟨k,hk⟩:=pure_FnForms a0 a1 w0 w1
 refine (laws_FnForms.calls k _ _ a0 _ _ a1 true W hc0 hl0 hc1 hl1 hGp hk).mono fun e W' hh => ?_
 obtain ⟨he,bel0⟩:=hh
 have bel : Below W.heap.size W W':=bel0
 subst he
 exact ⟨_,rfl,_,_,_,[],_,[],hW',trodAll_mk1 (shut_bool Tryd.underlying4 _),(trodAll_cons_mk (Below.trod laidOut_FnForms (by kernel_rfl) (of_decide_eq_true (by kernel_rfl)) k0 bel lt0) (trodAll_cons_mk (Below.trod laidOut_FnForms (by kernel_rfl) (of_decide_eq_true (by kernel_rfl)) k1 bel lt1) trodAll_mk0)),rfl,bel.frame _,fun h => by cases h⟩
theorem over_FnForms : Rows.fnFormsRow.holds Tryd.pinned (OpenSpec.ofChange Rows.fnFormsSpec) :=
 OpenClaim.holds_of_wide 6 Tryd.f6 rfl rfl rfl rfl rfl rfl rfl ⟨rfl,rfl,rfl,rfl,rfl⟩ rfl rfl rfl rfl rfl (by kernel_rfl) Tryd.func6 (by kernel_rfl)
  (of_decide_eq_true (by kernel_rfl)) (by unfold Func.isWrapper;first|(rw [if_pos (by decide +kernel)];kernel_rfl)|(rw [if_neg (by decide +kernel)];exact ⟨rfl,rfl⟩))
  (fun os started H enc _ => lifted_FnForms os started H enc)
theorem proved_FnForms : Rows.FnFormsCardSaid :=
 Claim7.holds_tied_plain_at .later [] [.data,.data,.data,.data,.pinned] true (true,"81cf06ccbdb762c3223c6c0a9cd263cdc3c68277790afb6634e8554602d3795f") true over_FnForms (fun _ h => by cases h) (by kernel_rfl) (fun _ h => by cases h) fnForms_row_tie rfl ⟨rfl,rfl⟩ (by kernel_rfl) rfl
  (fun f fn hf hfn => by
   obtain rfl : f = 6:=Option.some.inj ((show Tryd.prog.funcNamed "loop.example/g00356/laws.FnForms" = some 6 by kernel_rfl).symm.trans hf) |>.symm
   obtain rfl : fn = Tryd.f6:=(Option.some.inj (Tryd.func6.symm.trans hfn)).symm
   exact ⟨by kernel_rfl,fun j t ht => by
    rw [Tryd.params6] at ht
    have hm : t ∈ [38,38]:=by simpa using Array.mem_of_getElem? ht
    have hall : ([38,38].all fun u => !Tryd.prog.wantsStandIn u) = true:=by kernel_rfl
    exact (show Tryd.prog.wantsStandIn t = false by simpa using List.all_eq_true.1 hall t hm)⟩)
  (by kernel_rfl)
#print axioms proved_FnForms
end
end Go.Proofs.YticjbpkgdbacpaaDoor.X
