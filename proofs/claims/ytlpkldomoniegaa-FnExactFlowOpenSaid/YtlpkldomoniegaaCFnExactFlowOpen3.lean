/- Texts that the row of FnExactFlowOpen stands on: functions of the program and of the reference, each as a Lean function with the same answers, and the plain lemmas. Conditions: none beside those that each theorem names. -/
import Derived.Test.YtlpkldomoniegaaCFnExactFlowOpen2
namespace Go.Proofs.Ytlpkldomoniegaa.X
open Go.RowKit Go.Proofs.YtlpkldomoniegaaW.PrintWords Go.Proofs.YtlpkldomoniegaaW.PrintLast Go.Proofs.YtlpkldomoniegaaW.PrintMore
attribute [local go_sem] max2_int min2_int max_two min_two max_three min_three max_four min_four   -- for this text's walks alone
set_option linter.unusedVariables false
set_option linter.unusedSimpArgs false
open Go.Proofs.YtlpkldomoniegaaW.PrintWords renaming blk_drewN -> bDn
open Go.Proofs.YtlpkldomoniegaaW.PrintWords renaming blk_drew -> bDr
open Go.Proofs.YtlpkldomoniegaaW.PrintWords renaming blk_alloc -> bAl
open Go.Proofs.YtlpkldomoniegaaW.PrintWords renaming blk_frozen -> bFr
open Go.Proofs.YtlpkldomoniegaaW.PrintWords renaming blk_cell -> bCe
open Go.Proofs.YtlpkldomoniegaaW.PrintWords.Aside0 renaming mk -> aMk
open Go.World renaming block_lt_of_cell? -> wLt
open Go.Proofs.YtlpkldomoniegaaW.PrintWords renaming pw_below_drewN -> bwN
open Go.Proofs.YtlpkldomoniegaaW.PrintWords renaming below_drew1 -> bw1
open Go.Proofs.YtlpkldomoniegaaW.PrintWords renaming below_alloc -> bwA
section
/-! ### spec_l09Find: function 80 -/
def spec_l09Find.l0 : Nat → List (S71) → Int → Int → Int → Int → Int → Int → Option (Int × Bool)
 | 0,_,_,_,_,_,_,_ => none
 | k + 1,x0,x1,x2,x3,x4,x5,x14 => if x14 < (x0.length : Int) then (if 0 ≤ x14 then ((spec_l09Same.f ((rd_T71 x0 x14).f0) ((rd_T71 x0 x14).f1) ((rd_T71 x0 x14).f2) ((rd_T71 x0 x14).f3) ((rd_T71 x0 x14).f4) ((rd_T71 x0 x14).f5) ((rd_T71 x0 x14).f6) ((rd_T71 x0 x14).f7) ((rd_T71 x0 x14).f8) x1 x2 x3 x4 x5).bind fun t297 => (if t297 = true then (some (x14,false)) else ((spec_l09Same.f ((rd_T71 x0 x14).f0) ((rd_T71 x0 x14).f1) ((rd_T71 x0 x14).f2) ((rd_T71 x0 x14).f3) ((rd_T71 x0 x14).f4) ((rd_T71 x0 x14).f5) ((rd_T71 x0 x14).f6) ((rd_T71 x0 x14).f7) ((rd_T71 x0 x14).f8) x1 x4 x5 x2 x3).bind fun t299 => (if t299 = true then (some (x14,true)) else (spec_l09Find.l0 k x0 x1 x2 x3 x4 x5 (wrap64 (x14 + 1))))))) else (none)) else (some ((-1),false))
def spec_l09Find.f (k : Nat) (l0 : List (S71)) (a1 : Int) (a2 : Int) (a3 : Int) (a4 : Int) (a5 : Int) : Option (Int × Bool):=spec_l09Find.l0 k l0 a1 a2 a3 a4 a5 0
theorem spec_l09Find.mono_l : ∀ k,(∀ y0 y1 y2 y3 y4 y5 y6,LeO (spec_l09Find.l0 k y0 y1 y2 y3 y4 y5 y6) (spec_l09Find.l0 (k + 1) y0 y1 y2 y3 y4 y5 y6))
 | 0 => fun _ _ _ _ _ _ _ r h => by simp [spec_l09Find.l0] at h
 | k + 1 => by
  have ih0:=spec_l09Find.mono_l k
  ·intro y0 y1 y2 y3 y4 y5 y6
   unfold spec_l09Find.l0
   repeat' first
   | (with_reducible exact ih0 _ _ _ _ _ _ _)
   | (with_reducible exact LeO.refl _)
   | (with_reducible exact LeO.none _)
   | (with_reducible refine LeO.ite ?_ ?_)
   | (with_reducible refine LeO.bind ?_ (fun _ => ?_))
   | exact ih0 _ _ _ _ _ _ _
   | exact LeO.none _
   | refine LeO.ite ?_ ?_
   | refine LeO.bind ?_ (fun _ => ?_)
theorem spec_l09Find.mono : ∀ a0 a1 a2 a3 a4 a5 k,LeO (spec_l09Find.f k a0 a1 a2 a3 a4 a5) (spec_l09Find.f (k + 1) a0 a1 a2 a3 a4 a5):=by
 intro a0 a1 a2 a3 a4 a5 k
 have ih0:=spec_l09Find.mono_l k
 unfold spec_l09Find.f
 repeat' first
   | (with_reducible exact ih0 _ _ _ _ _ _ _)
   | (with_reducible exact LeO.refl _)
   | (with_reducible exact LeO.none _)
   | (with_reducible refine LeO.ite ?_ ?_)
   | (with_reducible refine LeO.bind ?_ (fun _ => ?_))
   | exact ih0 _ _ _ _ _ _ _
   | exact LeO.none _
   | refine LeO.ite ?_ ?_
   | refine LeO.bind ?_ (fun _ => ?_)
set_option maxHeartbeats 8000000 in
set_option maxRecDepth 100000 in
theorem spec_l09Find.calls (k : Nat) (A0 : Option Addr) (c0 : Nat) (l0 : List (S71)) (a1 : Int) (a2 : Int) (a3 : Int) (a4 : Int) (a5 : Int) (r1 : Int) (r2 : Bool) (w : World) (hr0 : Kd.C k71 w A0 l0.length l0) (hc0 : l0.length ≤ c0) (h : spec_l09Find.f k l0 a1 a2 a3 a4 a5 = some (r1,r2)) :
  Calls Try.prog 80 #[.slice A0 l0.length c0,.int .i64 a1,.int .i64 a2,.int .i64 a3,.int .i64 a4,.int .i64 a5] w fun e w' => e = .returned (.tuple #[.int .i64 r1,.bool r2]) ∧ Below w.heap.size w w':=by
 have hu71:=Try.underlying71
 have HR0:=aMk hr0
 have HC0:=aMk hc0
 clear hr0 hc0
 have HB:=aMk (Below.refl w.heap.size w)
 have H : (spec_l09Find.l0 k l0 a1 a2 a3 a4 a5 0) = some (r1,r2):=h
 clear h
 have H':=aMk H
 clear H
 go_enter Try.func80,Try.ntmps80
 go_wp2
 go_loopg [14] k (fun kq v14 w' => ∃ (x14_1 : Int),v14 = .int .i64 x14_1 ∧ Aside0 (spec_l09Find.l0 kq l0 a1 a2 a3 a4 a5 x14_1 = some (r1,r2)) ∧ Aside0 (kq ≤ k) ∧ Aside0 (Below w.heap.size w w'))
 case atStart => exact ⟨(0),(by first | rfl|(simp;done)|(simp [*];done)|(simp [ne_nil_b];done)|(simp [ne_nil_b, *];done)),H',⟨Nat.le_refl _⟩,⟨by repeat (first|(with_reducible first|exact HB.out|apply bwA|apply bwN|apply bw1)|exact HB.out)⟩⟩
 case round =>
  clear H'
  try clear p2
  obtain ⟨x14_1,rfl,HA,HK1,HB⟩:=hrel
  cases gk with
  | zero => exact absurd HA.out (by simp [spec_l09Find.l0])
  | succ k1 =>
   have H:=HA.out
   clear HA
   simp only [spec_l09Find.l0] at H
   by_cases c7 : x14_1 < (l0.length : Int)
   ·rw [if_pos c7] at H
    have c7b0 : decide (x14_1 < (l0.length : Int)) = true:=decide_eq_true c7
    clear c7
    by_cases c8 : 0 ≤ x14_1
    ·rw [if_pos c8] at H
     have c8b0 : decide (0 ≤ x14_1) = true:=decide_eq_true c8
     clear c8
     replace H:=Option.bind_eq_some_iff.mp H
     obtain ⟨t297,A90,H⟩:=H
     replace H : (if t297 = true then (some (x14_1,false)) else ((spec_l09Same.f ((rd_T71 l0 x14_1).f0) ((rd_T71 l0 x14_1).f1) ((rd_T71 l0 x14_1).f2) ((rd_T71 l0 x14_1).f3) ((rd_T71 l0 x14_1).f4) ((rd_T71 l0 x14_1).f5) ((rd_T71 l0 x14_1).f6) ((rd_T71 l0 x14_1).f7) ((rd_T71 l0 x14_1).f8) a1 a4 a5 a2 a3).bind fun t299 => (if t299 = true then (some (x14_1,true)) else (spec_l09Find.l0 k1 l0 a1 a2 a3 a4 a5 (wrap64 (x14_1 + 1)))))) = some (r1,r2):=H
     have A9:=aMk A90
     clear A90
     by_cases c10 : t297 = true
     ·subst c10
      have H1 : (some (x14_1,false)) = some (r1,r2):=by rw [if_pos rfl] at H;exact H
      clear H
      have H:=H1
      clear H1
      simp only [Option.some.injEq,Prod.mk.injEq] at H
      obtain ⟨rfl,rfl⟩:=H
      have p296 : 0 ≤ (x14_1 : Int):=of_decide_eq_true (by first|(with_reducible assumption) | assumption)
      have q296 : x14_1 < (l0.length : Int):=of_decide_eq_true (by first|(with_reducible assumption) | assumption)
      obtain ⟨ad296,e296,hx296_0,hx296_1,hx296_2,hx296_3,hx296_4,hx296_5,hx296_6,hx296_7,hx296_8⟩:=at_T71 HR0.out x14_1 p296 q296
      cases e296
      replace hx296_0:=(HB.out.cell (wLt w _ hx296_0)).trans hx296_0
      replace hx296_1:=(HB.out.cell (wLt w _ hx296_1)).trans hx296_1
      replace hx296_2:=(HB.out.cell (wLt w _ hx296_2)).trans hx296_2
      replace hx296_3:=(HB.out.cell (wLt w _ hx296_3)).trans hx296_3
      replace hx296_4:=(HB.out.cell (wLt w _ hx296_4)).trans hx296_4
      replace hx296_5:=(HB.out.cell (wLt w _ hx296_5)).trans hx296_5
      replace hx296_6:=(HB.out.cell (wLt w _ hx296_6)).trans hx296_6
      replace hx296_7:=(HB.out.cell (wLt w _ hx296_7)).trans hx296_7
      replace hx296_8:=(HB.out.cell (wLt w _ hx296_8)).trans hx296_8
      replace p296:=eq_true p296
      replace q296:=eq_true q296
      go_wp2_with (first|((with_reducible refine gate_callee (f:=76) rfl ?_);refine goesL_ (some 30) rfl rfl Try.func76 (by kernel_rfl) rfl #[.agg #[.int .i64 ((rd_T71 l0 x14_1).f0),.string ((rd_T71 l0 x14_1).f1),.int .i64 ((rd_T71 l0 x14_1).f2),.int .i64 ((rd_T71 l0 x14_1).f3),.int .i64 ((rd_T71 l0 x14_1).f4),.int .i64 ((rd_T71 l0 x14_1).f5),.int .i64 ((rd_T71 l0 x14_1).f6),.int .i64 ((rd_T71 l0 x14_1).f7),.int .i64 ((rd_T71 l0 x14_1).f8)],.int .i64 a1,.int .i64 a2,.int .i64 a3,.int .i64 a4,.int .i64 a5] rfl (by (try simp only [List.map_toArray,List.map_cons,List.map_nil]);first | done | rfl|(simp only [List.length_drop,List.length_take];rfl)) ?_;(with_reducible refine (spec_l09Same.calls ((rd_T71 l0 x14_1).f0) ((rd_T71 l0 x14_1).f1) ((rd_T71 l0 x14_1).f2) ((rd_T71 l0 x14_1).f3) ((rd_T71 l0 x14_1).f4) ((rd_T71 l0 x14_1).f5) ((rd_T71 l0 x14_1).f6) ((rd_T71 l0 x14_1).f7) ((rd_T71 l0 x14_1).f8) a1 a2 a3 a4 a5 true _ A9.out).mono ?_);rintro e w11 ⟨rfl,hb⟩;refine ⟨_,rfl,?_⟩;have n0_:=aMk (below_step (by repeat first|exact HB.out|apply bwA|apply bwN|apply bw1) hb);clear HB;have HB:=n0_;clear n0_;(try clear hb);(try clear hb2);(try clear hk);(try clear hi)))
      go_ret2
      exact ⟨by first | rfl|(simp [errW_none,errW_some] <;> rfl)|(simp [*,errW_none,errW_some] <;> rfl),by repeat (first|(with_reducible first|exact HB.out|apply bwA|apply bwN|apply bw1)|exact HB.out)⟩
     ·replace c10:=Bool.eq_false_iff.mpr c10
      subst c10
      have H1 : ((spec_l09Same.f ((rd_T71 l0 x14_1).f0) ((rd_T71 l0 x14_1).f1) ((rd_T71 l0 x14_1).f2) ((rd_T71 l0 x14_1).f3) ((rd_T71 l0 x14_1).f4) ((rd_T71 l0 x14_1).f5) ((rd_T71 l0 x14_1).f6) ((rd_T71 l0 x14_1).f7) ((rd_T71 l0 x14_1).f8) a1 a4 a5 a2 a3).bind fun t299 => (if t299 = true then (some (x14_1,true)) else (spec_l09Find.l0 k1 l0 a1 a2 a3 a4 a5 (wrap64 (x14_1 + 1))))) = some (r1,r2):=by rw [if_neg (show ¬ (false = true) by decide)] at H;exact H
      clear H
      have H:=H1
      clear H1
      replace H:=Option.bind_eq_some_iff.mp H
      obtain ⟨t299,A120,H⟩:=H
      replace H : (if t299 = true then (some (x14_1,true)) else (spec_l09Find.l0 k1 l0 a1 a2 a3 a4 a5 (wrap64 (x14_1 + 1)))) = some (r1,r2):=H
      have A12:=aMk A120
      clear A120
      by_cases c13 : t299 = true
      ·subst c13
       have H1 : (some (x14_1,true)) = some (r1,r2):=by rw [if_pos rfl] at H;exact H
       clear H
       have H:=H1
       clear H1
       simp only [Option.some.injEq,Prod.mk.injEq] at H
       obtain ⟨rfl,rfl⟩:=H
       have p296 : 0 ≤ (x14_1 : Int):=of_decide_eq_true (by first|(with_reducible assumption) | assumption)
       have q296 : x14_1 < (l0.length : Int):=of_decide_eq_true (by first|(with_reducible assumption) | assumption)
       obtain ⟨ad296,e296,hx296_0,hx296_1,hx296_2,hx296_3,hx296_4,hx296_5,hx296_6,hx296_7,hx296_8⟩:=at_T71 HR0.out x14_1 p296 q296
       cases e296
       replace hx296_0:=(HB.out.cell (wLt w _ hx296_0)).trans hx296_0
       replace hx296_1:=(HB.out.cell (wLt w _ hx296_1)).trans hx296_1
       replace hx296_2:=(HB.out.cell (wLt w _ hx296_2)).trans hx296_2
       replace hx296_3:=(HB.out.cell (wLt w _ hx296_3)).trans hx296_3
       replace hx296_4:=(HB.out.cell (wLt w _ hx296_4)).trans hx296_4
       replace hx296_5:=(HB.out.cell (wLt w _ hx296_5)).trans hx296_5
       replace hx296_6:=(HB.out.cell (wLt w _ hx296_6)).trans hx296_6
       replace hx296_7:=(HB.out.cell (wLt w _ hx296_7)).trans hx296_7
       replace hx296_8:=(HB.out.cell (wLt w _ hx296_8)).trans hx296_8
       replace p296:=eq_true p296
       replace q296:=eq_true q296
       go_wp2_with (first|((with_reducible refine gate_callee (f:=76) rfl ?_);refine goesL_ (some 30) rfl rfl Try.func76 (by kernel_rfl) rfl #[.agg #[.int .i64 ((rd_T71 l0 x14_1).f0),.string ((rd_T71 l0 x14_1).f1),.int .i64 ((rd_T71 l0 x14_1).f2),.int .i64 ((rd_T71 l0 x14_1).f3),.int .i64 ((rd_T71 l0 x14_1).f4),.int .i64 ((rd_T71 l0 x14_1).f5),.int .i64 ((rd_T71 l0 x14_1).f6),.int .i64 ((rd_T71 l0 x14_1).f7),.int .i64 ((rd_T71 l0 x14_1).f8)],.int .i64 a1,.int .i64 a2,.int .i64 a3,.int .i64 a4,.int .i64 a5] rfl (by (try simp only [List.map_toArray,List.map_cons,List.map_nil]);first | done | rfl|(simp only [List.length_drop,List.length_take];rfl)) ?_;(with_reducible refine (spec_l09Same.calls ((rd_T71 l0 x14_1).f0) ((rd_T71 l0 x14_1).f1) ((rd_T71 l0 x14_1).f2) ((rd_T71 l0 x14_1).f3) ((rd_T71 l0 x14_1).f4) ((rd_T71 l0 x14_1).f5) ((rd_T71 l0 x14_1).f6) ((rd_T71 l0 x14_1).f7) ((rd_T71 l0 x14_1).f8) a1 a2 a3 a4 a5 false _ A9.out).mono ?_);rintro e w14 ⟨rfl,hb⟩;refine ⟨_,rfl,?_⟩;have n0_:=aMk (below_step (by repeat first|exact HB.out|apply bwA|apply bwN|apply bw1) hb);clear HB;have HB:=n0_;clear n0_;(try clear hb);(try clear hb2);(try clear hk);(try clear hi);have p298 : 0 ≤ (x14_1 : Int):=of_decide_eq_true (by first|(with_reducible assumption) | assumption);have q298 : x14_1 < (l0.length : Int):=of_decide_eq_true (by first|(with_reducible assumption) | assumption);obtain ⟨ad298,e298,hx298_0,hx298_1,hx298_2,hx298_3,hx298_4,hx298_5,hx298_6,hx298_7,hx298_8⟩:=at_T71 HR0.out x14_1 p298 q298;obtain rfl : ad296 = ad298:=(by injection e298);replace hx298_0:=(HB.out.cell (wLt w _ hx298_0)).trans hx298_0;replace hx298_1:=(HB.out.cell (wLt w _ hx298_1)).trans hx298_1;replace hx298_2:=(HB.out.cell (wLt w _ hx298_2)).trans hx298_2;replace hx298_3:=(HB.out.cell (wLt w _ hx298_3)).trans hx298_3;replace hx298_4:=(HB.out.cell (wLt w _ hx298_4)).trans hx298_4;replace hx298_5:=(HB.out.cell (wLt w _ hx298_5)).trans hx298_5;replace hx298_6:=(HB.out.cell (wLt w _ hx298_6)).trans hx298_6;replace hx298_7:=(HB.out.cell (wLt w _ hx298_7)).trans hx298_7;replace hx298_8:=(HB.out.cell (wLt w _ hx298_8)).trans hx298_8;replace p298:=eq_true p298;replace q298:=eq_true q298)|((with_reducible refine gate_callee (f:=76) rfl ?_);refine goesL_ (some 41) rfl rfl Try.func76 (by kernel_rfl) rfl #[.agg #[.int .i64 ((rd_T71 l0 x14_1).f0),.string ((rd_T71 l0 x14_1).f1),.int .i64 ((rd_T71 l0 x14_1).f2),.int .i64 ((rd_T71 l0 x14_1).f3),.int .i64 ((rd_T71 l0 x14_1).f4),.int .i64 ((rd_T71 l0 x14_1).f5),.int .i64 ((rd_T71 l0 x14_1).f6),.int .i64 ((rd_T71 l0 x14_1).f7),.int .i64 ((rd_T71 l0 x14_1).f8)],.int .i64 a1,.int .i64 a4,.int .i64 a5,.int .i64 a2,.int .i64 a3] rfl (by (try simp only [List.map_toArray,List.map_cons,List.map_nil]);first | done | rfl|(simp only [List.length_drop,List.length_take];rfl)) ?_;(with_reducible refine (spec_l09Same.calls ((rd_T71 l0 x14_1).f0) ((rd_T71 l0 x14_1).f1) ((rd_T71 l0 x14_1).f2) ((rd_T71 l0 x14_1).f3) ((rd_T71 l0 x14_1).f4) ((rd_T71 l0 x14_1).f5) ((rd_T71 l0 x14_1).f6) ((rd_T71 l0 x14_1).f7) ((rd_T71 l0 x14_1).f8) a1 a4 a5 a2 a3 true _ A12.out).mono ?_);rintro e w15 ⟨rfl,hb⟩;refine ⟨_,rfl,?_⟩;have n0_:=aMk (below_step (by repeat first|exact HB.out|apply bwA|apply bwN|apply bw1) hb);clear HB;have HB:=n0_;clear n0_;(try clear hb);(try clear hb2);(try clear hk);(try clear hi)))
       go_ret2
       exact ⟨by first | rfl|(simp [errW_none,errW_some] <;> rfl)|(simp [*,errW_none,errW_some] <;> rfl),by repeat (first|(with_reducible first|exact HB.out|apply bwA|apply bwN|apply bw1)|exact HB.out)⟩
      ·replace c13:=Bool.eq_false_iff.mpr c13
       subst c13
       have H1 : (spec_l09Find.l0 k1 l0 a1 a2 a3 a4 a5 (wrap64 (x14_1 + 1))) = some (r1,r2):=by rw [if_neg (show ¬ (false = true) by decide)] at H;exact H
       clear H
       have H:=H1
       clear H1
       have H':=aMk H
       clear H
       have p296 : 0 ≤ (x14_1 : Int):=of_decide_eq_true (by first|(with_reducible assumption) | assumption)
       have q296 : x14_1 < (l0.length : Int):=of_decide_eq_true (by first|(with_reducible assumption) | assumption)
       obtain ⟨ad296,e296,hx296_0,hx296_1,hx296_2,hx296_3,hx296_4,hx296_5,hx296_6,hx296_7,hx296_8⟩:=at_T71 HR0.out x14_1 p296 q296
       cases e296
       replace hx296_0:=(HB.out.cell (wLt w _ hx296_0)).trans hx296_0
       replace hx296_1:=(HB.out.cell (wLt w _ hx296_1)).trans hx296_1
       replace hx296_2:=(HB.out.cell (wLt w _ hx296_2)).trans hx296_2
       replace hx296_3:=(HB.out.cell (wLt w _ hx296_3)).trans hx296_3
       replace hx296_4:=(HB.out.cell (wLt w _ hx296_4)).trans hx296_4
       replace hx296_5:=(HB.out.cell (wLt w _ hx296_5)).trans hx296_5
       replace hx296_6:=(HB.out.cell (wLt w _ hx296_6)).trans hx296_6
       replace hx296_7:=(HB.out.cell (wLt w _ hx296_7)).trans hx296_7
       replace hx296_8:=(HB.out.cell (wLt w _ hx296_8)).trans hx296_8
       replace p296:=eq_true p296
       replace q296:=eq_true q296
       go_wp2_with (first|((with_reducible refine gate_callee (f:=76) rfl ?_);refine goesL_ (some 30) rfl rfl Try.func76 (by kernel_rfl) rfl #[.agg #[.int .i64 ((rd_T71 l0 x14_1).f0),.string ((rd_T71 l0 x14_1).f1),.int .i64 ((rd_T71 l0 x14_1).f2),.int .i64 ((rd_T71 l0 x14_1).f3),.int .i64 ((rd_T71 l0 x14_1).f4),.int .i64 ((rd_T71 l0 x14_1).f5),.int .i64 ((rd_T71 l0 x14_1).f6),.int .i64 ((rd_T71 l0 x14_1).f7),.int .i64 ((rd_T71 l0 x14_1).f8)],.int .i64 a1,.int .i64 a2,.int .i64 a3,.int .i64 a4,.int .i64 a5] rfl (by (try simp only [List.map_toArray,List.map_cons,List.map_nil]);first | done | rfl|(simp only [List.length_drop,List.length_take];rfl)) ?_;(with_reducible refine (spec_l09Same.calls ((rd_T71 l0 x14_1).f0) ((rd_T71 l0 x14_1).f1) ((rd_T71 l0 x14_1).f2) ((rd_T71 l0 x14_1).f3) ((rd_T71 l0 x14_1).f4) ((rd_T71 l0 x14_1).f5) ((rd_T71 l0 x14_1).f6) ((rd_T71 l0 x14_1).f7) ((rd_T71 l0 x14_1).f8) a1 a2 a3 a4 a5 false _ A9.out).mono ?_);rintro e w16 ⟨rfl,hb⟩;refine ⟨_,rfl,?_⟩;have n0_:=aMk (below_step (by repeat first|exact HB.out|apply bwA|apply bwN|apply bw1) hb);clear HB;have HB:=n0_;clear n0_;(try clear hb);(try clear hb2);(try clear hk);(try clear hi);have p298 : 0 ≤ (x14_1 : Int):=of_decide_eq_true (by first|(with_reducible assumption) | assumption);have q298 : x14_1 < (l0.length : Int):=of_decide_eq_true (by first|(with_reducible assumption) | assumption);obtain ⟨ad298,e298,hx298_0,hx298_1,hx298_2,hx298_3,hx298_4,hx298_5,hx298_6,hx298_7,hx298_8⟩:=at_T71 HR0.out x14_1 p298 q298;obtain rfl : ad296 = ad298:=(by injection e298);replace hx298_0:=(HB.out.cell (wLt w _ hx298_0)).trans hx298_0;replace hx298_1:=(HB.out.cell (wLt w _ hx298_1)).trans hx298_1;replace hx298_2:=(HB.out.cell (wLt w _ hx298_2)).trans hx298_2;replace hx298_3:=(HB.out.cell (wLt w _ hx298_3)).trans hx298_3;replace hx298_4:=(HB.out.cell (wLt w _ hx298_4)).trans hx298_4;replace hx298_5:=(HB.out.cell (wLt w _ hx298_5)).trans hx298_5;replace hx298_6:=(HB.out.cell (wLt w _ hx298_6)).trans hx298_6;replace hx298_7:=(HB.out.cell (wLt w _ hx298_7)).trans hx298_7;replace hx298_8:=(HB.out.cell (wLt w _ hx298_8)).trans hx298_8;replace p298:=eq_true p298;replace q298:=eq_true q298)|((with_reducible refine gate_callee (f:=76) rfl ?_);refine goesL_ (some 41) rfl rfl Try.func76 (by kernel_rfl) rfl #[.agg #[.int .i64 ((rd_T71 l0 x14_1).f0),.string ((rd_T71 l0 x14_1).f1),.int .i64 ((rd_T71 l0 x14_1).f2),.int .i64 ((rd_T71 l0 x14_1).f3),.int .i64 ((rd_T71 l0 x14_1).f4),.int .i64 ((rd_T71 l0 x14_1).f5),.int .i64 ((rd_T71 l0 x14_1).f6),.int .i64 ((rd_T71 l0 x14_1).f7),.int .i64 ((rd_T71 l0 x14_1).f8)],.int .i64 a1,.int .i64 a4,.int .i64 a5,.int .i64 a2,.int .i64 a3] rfl (by (try simp only [List.map_toArray,List.map_cons,List.map_nil]);first | done | rfl|(simp only [List.length_drop,List.length_take];rfl)) ?_;(with_reducible refine (spec_l09Same.calls ((rd_T71 l0 x14_1).f0) ((rd_T71 l0 x14_1).f1) ((rd_T71 l0 x14_1).f2) ((rd_T71 l0 x14_1).f3) ((rd_T71 l0 x14_1).f4) ((rd_T71 l0 x14_1).f5) ((rd_T71 l0 x14_1).f6) ((rd_T71 l0 x14_1).f7) ((rd_T71 l0 x14_1).f8) a1 a4 a5 a2 a3 false _ A12.out).mono ?_);rintro e w17 ⟨rfl,hb⟩;refine ⟨_,rfl,?_⟩;have n0_:=aMk (below_step (by repeat first|exact HB.out|apply bwA|apply bwN|apply bw1) hb);clear HB;have HB:=n0_;clear n0_;(try clear hb);(try clear hb2);(try clear hk);(try clear hi)))
       go_roundg k1
       case measure => have:=HK1.out;omega
       case rel => exact ⟨(wrap64 (x14_1 + 1)),(by first | rfl|(simp;done)|(simp [*];done)|(simp [ne_nil_b];done)|(simp [ne_nil_b, *];done)),H',⟨by have:=HK1.out;omega⟩,⟨by repeat (first|(with_reducible first|exact HB.out|apply bwA|apply bwN|apply bw1)|exact HB.out)⟩⟩
    ·rw [if_neg c8] at H
     exact absurd H (by simp)
   ·rw [if_neg c7] at H
    have c7b0 : decide (x14_1 < (l0.length : Int)) = false:=decide_eq_false c7
    clear c7
    simp only [Option.some.injEq,Prod.mk.injEq] at H
    obtain ⟨rfl,rfl⟩:=H
    go_wp2
    go_ret2
    exact ⟨by first | rfl|(simp [errW_none,errW_some] <;> rfl)|(simp [*,errW_none,errW_some] <;> rfl),by repeat (first|(with_reducible first|exact HB.out|apply bwA|apply bwN|apply bw1)|exact HB.out)⟩
end
section
/-! ### spec_l09Wait: function 65 -/
def spec_l09Wait.f (a0 : Int) (a1 : Int) : Option (Int):=if a0 = 6 then (if a1 = 2 then (some 30) else (some 3)) else (some 5)
set_option maxHeartbeats 8000000 in
set_option maxRecDepth 100000 in
theorem spec_l09Wait.calls0 (a0 : Int) (a1 : Int) (r : Int) (w : World) (h : spec_l09Wait.f a0 a1 = some r) :
  Calls Try.prog 65 #[.int .i64 a0,.int .i64 a1] w fun e w' => e = .returned (.int .i64 r) ∧ Drawn0 w w':=by
 have H : (if a0 = 6 then (if a1 = 2 then (some 30) else (some 3)) else (some 5)) = some r:=h
 clear h
 by_cases c3 : a0 = 6
 ·rw [if_pos c3] at H
  have c3b0 : (a0 == 6) = true:=beq_iff_eq.mpr c3
  have c3b1 : (a0 != 6) = false:=bne_eq_false_iff_eq.mpr c3
  clear c3
  by_cases c4 : a1 = 2
  ·rw [if_pos c4] at H
   have c4b0 : (a1 == 2) = true:=beq_iff_eq.mpr c4
   have c4b1 : (a1 != 2) = false:=bne_eq_false_iff_eq.mpr c4
   clear c4
   obtain rfl:=Option.some.inj H
   go_enter Try.func65,Try.ntmps65
   go_wp2
   go_ret
   exact ⟨by first | rfl|(simp;done)|(simp [*];done)|(simp [ne_nil_b];done)|(simp [ne_nil_b, *];done),by repeat (first|exact Drawn0.refl _|apply Drawn0.step)⟩
  ·rw [if_neg c4] at H
   have c4b0 : (a1 == 2) = false:=beq_eq_false_iff_ne.mpr c4
   have c4b1 : (a1 != 2) = true:=bne_iff_ne.mpr c4
   obtain rfl:=Option.some.inj H
   go_enter Try.func65,Try.ntmps65
   go_wp2
   go_ret
   exact ⟨by first | rfl|(simp;done)|(simp [*];done)|(simp [ne_nil_b];done)|(simp [ne_nil_b, *];done),by repeat (first|exact Drawn0.refl _|apply Drawn0.step)⟩
 ·rw [if_neg c3] at H
  have c3b0 : (a0 == 6) = false:=beq_eq_false_iff_ne.mpr c3
  have c3b1 : (a0 != 6) = true:=bne_iff_ne.mpr c3
  obtain rfl:=Option.some.inj H
  go_enter Try.func65,Try.ntmps65
  go_wp2
  go_ret
  exact ⟨by first | rfl|(simp;done)|(simp [*];done)|(simp [ne_nil_b];done)|(simp [ne_nil_b, *];done),by repeat (first|exact Drawn0.refl _|apply Drawn0.step)⟩

theorem spec_l09Wait.calls (a0 : Int) (a1 : Int) (r : Int) (w : World) (h : spec_l09Wait.f a0 a1 = some r) :
  Calls Try.prog 65 #[.int .i64 a0,.int .i64 a1] w fun e w' => e = .returned (.int .i64 r) ∧ Below w.heap.size w w':=by
 refine (spec_l09Wait.calls0 a0 a1 r w h).mono fun e w' hh => ⟨hh.1,?_⟩
 obtain ⟨nd,hq⟩:=hh.2
 rw [hq]
 exact bwN (Below.refl _ _) nd
end
section
/-! ### spec_l09Open: function 97 -/
def spec_l09Open.f (l0 : List (S71)) (a1_0 : Int) (a1_1 : ByteArray) (a1_2 : Int) (a1_3 : Int) (a1_4 : Int) (a1_5 : Int) (a1_6 : Int) (a1_7 : Int) (a1_8 : Int) (a2 : Int) : Option ((List (S71)) × Int):=if (l0.length : Int) = 8 then (some (l0,7)) else ((spec_l09Wait.f a1_0 1).bind fun t919 => ((some (([] : List (S71)) : List (S71))).bind fun y920 => (if y920.length + l0.length < 1759218604441 then ((some (y920 ++ l0 : List (S71))).bind fun y923 => ((some (([(⟨a1_0,a1_1,a1_2,a1_3,a1_4,a1_5,1,wrap64 (a2 + t919),a1_8⟩ : S71)] : List (S71)) : List (S71))).bind fun y926 => (if y923.length + y926.length < 1759218604441 then (some ((y923 ++ y926),0)) else (none)))) else (none))))
def spec_l09Open.T5 : Bool × List (List Nat × List Nat):=(true,[([],[]),([],[]),([0,1],[0,1]),([],[]),([3],[3]),([2,4,2],[2,4]),([5,5,0,1,2,3,4,5],[5]),([6,0,1,2,3,4,5,6],[])])
def spec_l09Open.B5 : List Nat:=[0,0,3,0,8,31,63,127]
theorem spec_l09Open.tab5 : rtab .any (opsOf Try.f97 5) = spec_l09Open.T5:=by kernel_rfl
theorem spec_l09Open.bits5 : waitsOk spec_l09Open.T5.2 spec_l09Open.B5 = true:=by kernel_rfl
set_option maxHeartbeats 8000000 in
set_option maxRecDepth 100000 in
theorem spec_l09Open.calls (P0_ : Nat → Prop) (u9000_ : Value) (l0 : List (S71)) (a1_0 : Int) (a1_1 : ByteArray) (a1_2 : Int) (a1_3 : Int) (a1_4 : Int) (a1_5 : Int) (a1_6 : Int) (a1_7 : Int) (a1_8 : Int) (a2 : Int) (r1 : List (S71)) (r2 : Int) (w0 w : World) (hB : Below w0.heap.size w0 w) (ho0 : Kd.R k71 71 w w0.heap.size P0_ u9000_ l0) (h : spec_l09Open.f l0 a1_0 a1_1 a1_2 a1_3 a1_4 a1_5 a1_6 a1_7 a1_8 a2 = some (r1,r2)) :
  Calls Try.prog 97 #[u9000_,.agg #[.int .i64 a1_0,.string a1_1,.int .i64 a1_2,.int .i64 a1_3,.int .i64 a1_4,.int .i64 a1_5,.int .i64 a1_6,.int .i64 a1_7,.int .i64 a1_8],.int .i64 a2] w fun e w' => ∃ v0_ : Value,e = .returned (.tuple #[v0_,.int .i64 r2]) ∧ Kd.R k71 71 w' w0.heap.size (fun k_ => (P0_ k_ ∨ w.heap.size ≤ k_)) v0_ r1 ∧ Below w0.heap.size w0 w' ∧ Kept w w' (fun k_ => P0_ k_):=by
 have hu71:=Try.underlying71
 have HO0:=aMk (show Kd.R k71 71 w w0.heap.size (fun k_ => (P0_ k_ ∨ w.heap.size ≤ k_)) u9000_ l0 from Kd.R_mono ho0 (fun k_ hk => (.inl hk)))
 have HK:=aMk (Kept.refl w (fun k_ => P0_ k_))
 have HW0:=aMk hB.size
 have HB:=aMk hB
 clear hB
 have H : (if (l0.length : Int) = 8 then (some (l0,7)) else ((spec_l09Wait.f a1_0 1).bind fun t919 => ((some (([] : List (S71)) : List (S71))).bind fun y920 => (if y920.length + l0.length < 1759218604441 then ((some (y920 ++ l0 : List (S71))).bind fun y923 => ((some (([(⟨a1_0,a1_1,a1_2,a1_3,a1_4,a1_5,1,wrap64 (a2 + t919),a1_8⟩ : S71)] : List (S71)) : List (S71))).bind fun y926 => (if y923.length + y926.length < 1759218604441 then (some ((y923 ++ y926),0)) else (none)))) else (none))))) = some (r1,r2):=h
 clear h
 by_cases c4 : (l0.length : Int) = 8
 ·rw [if_pos c4] at H
  have c4b0 : ((l0.length : Int) == 8) = true:=beq_iff_eq.mpr c4
  have c4b1 : ((l0.length : Int) != 8) = false:=bne_eq_false_iff_eq.mpr c4
  clear c4
  simp only [Option.some.injEq,Prod.mk.injEq] at H
  obtain ⟨rfl,rfl⟩:=H
  go_enter Try.func97,Try.ntmps97
  go_wp2_with (first|((with_reducible refine gate_dst (N:=4) rfl ?_);refine box_event ?hg (N:=4) ?hd (cs:=#[.int .i64 a1_0,.string a1_1,.int .i64 a1_2,.int .i64 a1_3,.int .i64 a1_4,.int .i64 a1_5,.int .i64 a1_6,.int .i64 a1_7,.int .i64 a1_8]) (t:=71) ?hr ?_;(case hd => rfl);(case hg => rfl);(case hr => first|(go_simp;done)|(go_simp;rfl));intro gb918 hg w5 hbox hb;have n0_:=aMk (Kd.R_below (Kd.R_elderB (by (with_reducible repeat (first|apply Kd.R_alloc|apply Kd.R_drewN|apply Kd.R_drew));exact HO0.out) gb918 (Nat.le_of_eq hg.symm)) hb);have n1_:=aMk (Kept.below (S:=(fun k_ => P0_ k_)) (by repeat (first|(with_reducible first|exact HK.out|apply Kept.alloc|apply Kept.drewN|apply Kept.drew)|exact HK.out)) hb);have n2_:=aMk (below_step (by repeat first|exact HB.out|apply bwA|apply bwN|apply bw1) hb);have n3_:=aMk (hbox);have n4_:=aMk ((by rw [hg];exact (by first|exact HK.out.1|exact (show Kept w _ (fun k_ => P0_ k_) from by repeat (first|(with_reducible first|exact HK.out|apply Kept.alloc|apply Kept.drewN|apply Kept.drew)|exact HK.out)).1) : w.heap.size ≤ gb918));have n5_:=aMk ((by rw [hg];exact (below_size (by repeat first|exact HB.out|apply bwA|apply bwN|apply bw1)) : w0.heap.size ≤ gb918));clear HO0;clear HK;clear HB;have HO0:=n0_;have HK:=n1_;have HB:=n2_;have BK918:=n3_;have GW918:=n4_;have GE918:=n5_;clear n0_ n1_ n2_ n3_ n4_ n5_;clear hb hbox hg;obtain ⟨Ao6,co6,eo6⟩:=Kd.R_slice HO0.out;subst eo6))
  go_ret2
  exact ⟨_,by first | rfl|(simp [errW_none,errW_some] <;> rfl)|(simp [*,errW_none,errW_some] <;> rfl),by (with_reducible repeat (first|apply Kd.R_alloc|apply Kd.R_drewN|apply Kd.R_drew));exact Kd.R_mono HO0.out (fun _ hk => hk.1),by repeat (first|(with_reducible first|exact HB.out|apply bwA|apply bwN|apply bw1|refine below_set ?_ GE918.out)|exact HB.out),by repeat (first|(with_reducible first|exact HK.out|apply Kept.alloc|apply Kept.drewN|apply Kept.drew|refine Kept.setCell ?_ (.inr GW918.out) _)|exact HK.out)⟩
 ·rw [if_neg c4] at H
  have c4b0 : ((l0.length : Int) == 8) = false:=beq_eq_false_iff_ne.mpr c4
  have c4b1 : ((l0.length : Int) != 8) = true:=bne_iff_ne.mpr c4
  replace H:=Option.bind_eq_some_iff.mp H
  obtain ⟨t919,A70,H⟩:=H
  replace H : ((some (([] : List (S71)) : List (S71))).bind fun y920 => (if y920.length + l0.length < 1759218604441 then ((some (y920 ++ l0 : List (S71))).bind fun y923 => ((some (([(⟨a1_0,a1_1,a1_2,a1_3,a1_4,a1_5,1,wrap64 (a2 + t919),a1_8⟩ : S71)] : List (S71)) : List (S71))).bind fun y926 => (if y923.length + y926.length < 1759218604441 then (some ((y923 ++ y926),0)) else (none)))) else (none))) = some (r1,r2):=H
  have A7:=aMk A70
  clear A70
  obtain ⟨y920,hy920⟩ : ∃ y_ : List (S71),y_ = (([] : List (S71))):=⟨_,rfl⟩
  replace H : (if y920.length + l0.length < 1759218604441 then ((some (y920 ++ l0 : List (S71))).bind fun y923 => ((some (([(⟨a1_0,a1_1,a1_2,a1_3,a1_4,a1_5,1,wrap64 (a2 + t919),a1_8⟩ : S71)] : List (S71)) : List (S71))).bind fun y926 => (if y923.length + y926.length < 1759218604441 then (some ((y923 ++ y926),0)) else (none)))) else (none)) = some (r1,r2):=by first|(rw [hy920];with_reducible exact H)|(have H2_:=(Option.bind_some _ _).symm.trans H;rw [hy920];with_reducible exact H2_)|(have H2_:=(Option.bind_some _ _).symm.trans H;with_reducible exact H2_) | with_reducible exact H|(rw [hy920];exact H)|exact H
  have Ny920:=aMk hy920
  clear hy920
  by_cases c8 : y920.length + l0.length < 1759218604441
  ·rw [if_pos c8] at H
   have LMc8:=aMk c8
   clear c8
   obtain ⟨y923,hy923⟩ : ∃ y_ : List (S71),y_ = (y920 ++ l0):=⟨_,rfl⟩
   replace H : ((some (([(⟨a1_0,a1_1,a1_2,a1_3,a1_4,a1_5,1,wrap64 (a2 + t919),a1_8⟩ : S71)] : List (S71)) : List (S71))).bind fun y926 => (if y923.length + y926.length < 1759218604441 then (some ((y923 ++ y926),0)) else (none))) = some (r1,r2):=by first|(rw [hy923];with_reducible exact H)|(have H2_:=(Option.bind_some _ _).symm.trans H;rw [hy923];with_reducible exact H2_)|(have H2_:=(Option.bind_some _ _).symm.trans H;with_reducible exact H2_) | with_reducible exact H|(rw [hy923];exact H)|exact H
   have Ny923:=aMk hy923
   clear hy923
   obtain ⟨y926,hy926⟩ : ∃ y_ : List (S71),y_ = (([(⟨a1_0,a1_1,a1_2,a1_3,a1_4,a1_5,1,wrap64 (a2 + t919),a1_8⟩ : S71)] : List (S71))):=⟨_,rfl⟩
   replace H : (if y923.length + y926.length < 1759218604441 then (some ((y923 ++ y926),0)) else (none)) = some (r1,r2):=by first|(rw [hy926];with_reducible exact H)|(have H2_:=(Option.bind_some _ _).symm.trans H;rw [hy926];with_reducible exact H2_)|(have H2_:=(Option.bind_some _ _).symm.trans H;with_reducible exact H2_) | with_reducible exact H|(rw [hy926];exact H)|exact H
   have Ny926:=aMk hy926
   clear hy926
   by_cases c9 : y923.length + y926.length < 1759218604441
   ·rw [if_pos c9] at H
    have LMc9:=aMk c9
    clear c9
    obtain ⟨y929,hy929⟩ : ∃ y_ : List (S71),y_ = (y923 ++ y926):=⟨_,rfl⟩
    replace H : (some (y929,0)) = some (r1,r2):=by first|(rw [hy929];with_reducible exact H)|(have H2_:=(Option.bind_some _ _).symm.trans H;rw [hy929];with_reducible exact H2_)|(have H2_:=(Option.bind_some _ _).symm.trans H;with_reducible exact H2_) | with_reducible exact H|(rw [hy929];exact H)|exact H
    have Ny929:=aMk hy929
    clear hy929
    simp only [Option.some.injEq,Prod.mk.injEq] at H
    obtain ⟨rfl,rfl⟩:=H
    go_enter Try.func97,Try.ntmps97
    try go_wp2_with (first|((with_reducible refine gate_dst (N:=4) rfl ?_);refine box_event ?hg (N:=4) ?hd (cs:=#[.int .i64 a1_0,.string a1_1,.int .i64 a1_2,.int .i64 a1_3,.int .i64 a1_4,.int .i64 a1_5,.int .i64 a1_6,.int .i64 a1_7,.int .i64 a1_8]) (t:=71) ?hr ?_;(case hd => rfl);(case hg => rfl);(case hr => first|(go_simp;done)|(go_simp;rfl));intro gb918 hg w10 hbox hb;have n0_:=aMk (Kd.R_below (Kd.R_elderB (by (with_reducible repeat (first|apply Kd.R_alloc|apply Kd.R_drewN|apply Kd.R_drew));exact HO0.out) gb918 (Nat.le_of_eq hg.symm)) hb);have n1_:=aMk (Kept.below (S:=(fun k_ => P0_ k_)) (by repeat (first|(with_reducible first|exact HK.out|apply Kept.alloc|apply Kept.drewN|apply Kept.drew)|exact HK.out)) hb);have n2_:=aMk (below_step (by repeat first|exact HB.out|apply bwA|apply bwN|apply bw1) hb);have n3_:=aMk (hbox);have n4_:=aMk ((by rw [hg];exact (by first|exact HK.out.1|exact (show Kept w _ (fun k_ => P0_ k_) from by repeat (first|(with_reducible first|exact HK.out|apply Kept.alloc|apply Kept.drewN|apply Kept.drew)|exact HK.out)).1) : w.heap.size ≤ gb918));have n5_:=aMk ((by rw [hg];exact (below_size (by repeat first|exact HB.out|apply bwA|apply bwN|apply bw1)) : w0.heap.size ≤ gb918));clear HO0;clear HK;clear HB;have HO0:=n0_;have HK:=n1_;have HB:=n2_;have BK918:=n3_;have GW918:=n4_;have GE918:=n5_;clear n0_ n1_ n2_ n3_ n4_ n5_;clear hb hbox hg;obtain ⟨Ao11,co11,eo11⟩:=Kd.R_slice HO0.out;subst eo11;have hcz12_0 : w10.cell? ⟨gb918,0,none⟩ = some (.int .i64 a1_0):=(bCe BK918.out 0).trans rfl;have hcz12_1 : w10.cell? ⟨gb918,1,none⟩ = some (.string a1_1):=(bCe BK918.out 1).trans rfl;have hcz12_2 : w10.cell? ⟨gb918,2,none⟩ = some (.int .i64 a1_2):=(bCe BK918.out 2).trans rfl;have hcz12_3 : w10.cell? ⟨gb918,3,none⟩ = some (.int .i64 a1_3):=(bCe BK918.out 3).trans rfl;have hcz12_4 : w10.cell? ⟨gb918,4,none⟩ = some (.int .i64 a1_4):=(bCe BK918.out 4).trans rfl;have hcz12_5 : w10.cell? ⟨gb918,5,none⟩ = some (.int .i64 a1_5):=(bCe BK918.out 5).trans rfl;have hcz12_6 : w10.cell? ⟨gb918,6,none⟩ = some (.int .i64 a1_6):=(bCe BK918.out 6).trans rfl;have hcz12_7 : w10.cell? ⟨gb918,7,none⟩ = some (.int .i64 a1_7):=(bCe BK918.out 7).trans rfl;have hcz12_8 : w10.cell? ⟨gb918,8,none⟩ = some (.int .i64 a1_8):=(bCe BK918.out 8).trans rfl;have hfz12_0:=bFr BK918.out 0;have hfz12_1:=bFr BK918.out 1;have hfz12_2:=bFr BK918.out 2;have hfz12_3:=bFr BK918.out 3;have hfz12_4:=bFr BK918.out 4;have hfz12_5:=bFr BK918.out 5;have hfz12_6:=bFr BK918.out 6;have hfz12_7:=bFr BK918.out 7;have hfz12_8:=bFr BK918.out 8)|((with_reducible refine gate_callee (f:=65) rfl ?_);refine goesL_ (some 16) rfl rfl Try.func65 (by kernel_rfl) rfl #[.int .i64 a1_0,.int .i64 1] rfl (by (try simp only [List.map_toArray,List.map_cons,List.map_nil]);first | done | rfl|(simp only [List.length_drop,List.length_take];rfl)) ?_;(with_reducible refine (spec_l09Wait.calls a1_0 1 t919 _ A7.out).mono ?_);rintro e w13 ⟨rfl,hb⟩;refine ⟨_,rfl,?_⟩;have n0_:=aMk (Kd.R_below (by (with_reducible repeat (first|apply Kd.R_alloc|apply Kd.R_drewN|apply Kd.R_drew));exact (Kd.R_mono (Kd.R_far (p:=⟨gb918,6,none⟩) (Kd.R_mono HO0.out (fun k_ hk => (⟨hk,hk.2⟩ : _ ∧ k_ ≠ gb918))) (fun _ hk => hk.2) (.int .i64 1)) (fun _ h_ => h_.1))) hb);have n1_:=aMk (blk_below (g:=gb918) (o:=.cells #[.int .i64 a1_0,.string a1_1,.int .i64 a1_2,.int .i64 a1_3,.int .i64 a1_4,.int .i64 a1_5,.int .i64 1,.int .i64 a1_7,.int .i64 a1_8] 71 (0,0)) (by (with_reducible repeat (first|refine bDn ?_ _|refine bDr ?_|refine bAl ?_ _));refine blk_put (cs:=#[.int .i64 a1_0,.string a1_1,.int .i64 a1_2,.int .i64 a1_3,.int .i64 a1_4,.int .i64 a1_5,.int .i64 a1_6,.int .i64 a1_7,.int .i64 a1_8]) ?_ 6 _ rfl;(with_reducible repeat (first|refine bDn ?_ _|refine bDr ?_|refine bAl ?_ _));exact BK918.out) hb);have n2_:=aMk (Kept.below (S:=(fun k_ => P0_ k_)) (by repeat (first|(with_reducible first|exact HK.out|apply Kept.alloc|apply Kept.drewN|apply Kept.drew|refine Kept.setCell ?_ (.inr GW918.out) _)|exact HK.out)) hb);have n3_:=aMk (below_step (by repeat (first|(with_reducible first|exact HB.out|apply bwA|apply bwN|apply bw1|refine below_set ?_ GE918.out)|exact HB.out)) hb);clear HO0;clear BK918;clear HK;clear HB;have HO0:=n0_;have BK918:=n1_;have HK:=n2_;have HB:=n3_;clear n0_ n1_ n2_ n3_;(try clear hb);(try clear hb2);(try clear hk);(try clear hi);have hcz14_0 : w13.cell? ⟨gb918,0,none⟩ = some (.int .i64 a1_0):=(bCe BK918.out 0).trans rfl;have hcz14_1 : w13.cell? ⟨gb918,1,none⟩ = some (.string a1_1):=(bCe BK918.out 1).trans rfl;have hcz14_2 : w13.cell? ⟨gb918,2,none⟩ = some (.int .i64 a1_2):=(bCe BK918.out 2).trans rfl;have hcz14_3 : w13.cell? ⟨gb918,3,none⟩ = some (.int .i64 a1_3):=(bCe BK918.out 3).trans rfl;have hcz14_4 : w13.cell? ⟨gb918,4,none⟩ = some (.int .i64 a1_4):=(bCe BK918.out 4).trans rfl;have hcz14_5 : w13.cell? ⟨gb918,5,none⟩ = some (.int .i64 a1_5):=(bCe BK918.out 5).trans rfl;have hcz14_6 : w13.cell? ⟨gb918,6,none⟩ = some (.int .i64 1):=(bCe BK918.out 6).trans rfl;have hcz14_7 : w13.cell? ⟨gb918,7,none⟩ = some (.int .i64 a1_7):=(bCe BK918.out 7).trans rfl;have hcz14_8 : w13.cell? ⟨gb918,8,none⟩ = some (.int .i64 a1_8):=(bCe BK918.out 8).trans rfl;have hfz14_0:=bFr BK918.out 0;have hfz14_1:=bFr BK918.out 1;have hfz14_2:=bFr BK918.out 2;have hfz14_3:=bFr BK918.out 3;have hfz14_4:=bFr BK918.out 4;have hfz14_5:=bFr BK918.out 5;have hfz14_6:=bFr BK918.out 6;have hfz14_7:=bFr BK918.out 7;have hfz14_8:=bFr BK918.out 8))
    have n0_ : Aside0 (Kd.R k71 71 (w13.setCell ⟨gb918,7,none⟩ (.int .i64 (wrap64 (a2 + t919)))) w0.heap.size (fun k_ => (P0_ k_ ∨ w.heap.size ≤ k_) ∧ k_ ≠ gb918) (.slice Ao11 l0.length co11) l0):=⟨by (with_reducible repeat (first|apply Kd.R_alloc|apply Kd.R_drewN|apply Kd.R_drew));exact Kd.R_mono (Kd.R_far (p:=⟨gb918,7,none⟩) (Kd.R_mono HO0.out (fun k_ hk => (⟨hk,hk.2⟩ : _ ∧ k_ ≠ gb918))) (fun _ hk => hk.2) (.int .i64 (wrap64 (a2 + t919)))) (fun _ hk => ⟨hk.1.1,hk.1.2⟩)⟩
    have n1_ : Aside0 ((w13.setCell ⟨gb918,7,none⟩ (.int .i64 (wrap64 (a2 + t919)))).heap[gb918]? = some (.cells #[.int .i64 a1_0,.string a1_1,.int .i64 a1_2,.int .i64 a1_3,.int .i64 a1_4,.int .i64 a1_5,.int .i64 1,.int .i64 (wrap64 (a2 + t919)),.int .i64 a1_8] 71 (0,0))):=⟨by (with_reducible repeat (first|refine bDn ?_ _|refine bDr ?_|refine bAl ?_ _));refine blk_put (cs:=#[.int .i64 a1_0,.string a1_1,.int .i64 a1_2,.int .i64 a1_3,.int .i64 a1_4,.int .i64 a1_5,.int .i64 1,.int .i64 a1_7,.int .i64 a1_8]) ?_ 7 _ rfl;(with_reducible repeat (first|refine bDn ?_ _|refine bDr ?_|refine bAl ?_ _));exact BK918.out⟩
    have n2_ : Aside0 (Kept w (w13.setCell ⟨gb918,7,none⟩ (.int .i64 (wrap64 (a2 + t919)))) (fun k_ => P0_ k_)):=⟨by repeat (first|(with_reducible first|exact HK.out|apply Kept.alloc|apply Kept.drewN|apply Kept.drew|refine Kept.setCell ?_ (.inr GW918.out) _)|exact HK.out)⟩
    have n3_ : Aside0 (Below w0.heap.size w0 (w13.setCell ⟨gb918,7,none⟩ (.int .i64 (wrap64 (a2 + t919))))):=⟨by repeat (first|(with_reducible first|exact HB.out|apply bwA|apply bwN|apply bw1|refine below_set ?_ GE918.out)|exact HB.out)⟩
    (try clear HO0)
    (try clear BK918)
    (try clear HK)
    (try clear HB)
    generalize (w13.setCell ⟨gb918,7,none⟩ (.int .i64 (wrap64 (a2 + t919)))) = w15 at n0_ n1_ n2_ n3_ ⊢
    have HO0:=n0_
    have BK918:=n1_
    have HK:=n2_
    have HB:=n3_
    clear n0_ n1_ n2_ n3_
    have n0_:=aMk (Kd.R_drew HO0.out)
    have n1_:=aMk (bDr BK918.out)
    have n2_:=aMk (Kept.drew HK.out)
    have n3_:=aMk (bw1 HB.out)
    clear HO0
    clear BK918
    clear HK
    clear HB
    have HO0:=n0_
    have BK918:=n1_
    have HK:=n2_
    have HB:=n3_
    clear n0_ n1_ n2_ n3_
    refine start_ (n:=8) (S:=fun w' => w'.cell? ⟨gb918,0,none⟩ = some (.int .i64 a1_0) ∧ w'.cell? ⟨gb918,1,none⟩ = some (.string a1_1) ∧ w'.cell? ⟨gb918,2,none⟩ = some (.int .i64 a1_2) ∧ w'.cell? ⟨gb918,3,none⟩ = some (.int .i64 a1_3) ∧ w'.cell? ⟨gb918,4,none⟩ = some (.int .i64 a1_4) ∧ w'.cell? ⟨gb918,5,none⟩ = some (.int .i64 a1_5) ∧ w'.cell? ⟨gb918,6,none⟩ = some (.int .i64 1) ∧ w'.cell? ⟨gb918,7,none⟩ = some (.int .i64 (wrap64 (a2 + t919))) ∧ w'.cell? ⟨gb918,8,none⟩ = some (.int .i64 a1_8)) (ds:=[]) #[false,false,false,false,false,false,false,false] (by kernel_rfl) rfl rfl ⟨(bCe BK918.out 0).trans rfl,(bCe BK918.out 1).trans rfl,(bCe BK918.out 2).trans rfl,(bCe BK918.out 3).trans rfl,(bCe BK918.out 4).trans rfl,(bCe BK918.out 5).trans rfl,(bCe BK918.out 6).trans rfl,(bCe BK918.out 7).trans rfl,(bCe BK918.out 8).trans rfl⟩ (fun hHeld => ?_);refine with_tabW spec_l09Open.tab5 spec_l09Open.bits5 (fun HT_ HW_ => ?_)
    generalize w15.drew = w16 at HO0 BK918 HK HB hHeld ⊢
    refine pure_ (i:=1) (N:=some 20) (v:=?_) (a':=?_) #[false,true,false,false,false,false,false,false] rfl rfl (any_of HT_.out (by kernel_rfl)) (fun _ _ _ h => h) (Or.inl ⟨by rfl,?_⟩) ?_ ?_
    rotate_left
    ·intro w'
     go_simp
     with_reducible rfl
    rotate_left
    ·simp only [Act.put,List.setIfInBounds_toArray,List.set_cons_zero,List.set_cons_succ,i64_w,i32_w]
     rfl
    refine take_ (i:=3) (N:=some 22) (v:=?_) (a':=?_) #[false,true,false,true,false,false,false,false] rfl rfl (take_ofW HT_.out HW_.out (by kernel_rfl)) (fun _ _ _ h => h) (Or.inl ⟨by rfl,?_⟩) hHeld ?_ ?_
    rotate_left
    ·rintro w' ⟨s0,s1,s2,s3,s4,s5,s6,s7,s8⟩
     go_simp
     with_reducible rfl
    rotate_left
    ·simp only [Act.put,List.setIfInBounds_toArray,List.set_cons_zero,List.set_cons_succ,i64_w,i32_w]
     rfl
    refine join_ (σ:=Value × Value × Value) 3 #[true,true,true,true,true,false,false,false] (fun s_ => [(19,s_.1),(21,s_.2.1),(23,s_.2.2)]) (fun s_ w' => (w'.cell? ⟨gb918,0,none⟩ = some (.int .i64 a1_0) ∧ w'.cell? ⟨gb918,1,none⟩ = some (.string a1_1) ∧ w'.cell? ⟨gb918,2,none⟩ = some (.int .i64 a1_2) ∧ w'.cell? ⟨gb918,3,none⟩ = some (.int .i64 a1_3) ∧ w'.cell? ⟨gb918,4,none⟩ = some (.int .i64 a1_4) ∧ w'.cell? ⟨gb918,5,none⟩ = some (.int .i64 a1_5) ∧ w'.cell? ⟨gb918,6,none⟩ = some (.int .i64 1) ∧ w'.cell? ⟨gb918,7,none⟩ = some (.int .i64 (wrap64 (a2 + t919))) ∧ w'.cell? ⟨gb918,8,none⟩ = some (.int .i64 a1_8)) ∧ (Kd.R k71 71 w' w0.heap.size (fun k_ => (P0_ k_ ∨ w.heap.size ≤ k_) ∧ some k_ ≠ (s_.2.1 : Value).ownBlock ∧ some k_ ≠ (s_.2.2 : Value).ownBlock ∧ k_ ≠ gb918) (.slice Ao11 l0.length co11) l0) ∧ (Kd.R k71 71 w' w0.heap.size (fun k_ => (P0_ k_ ∨ w.heap.size ≤ k_) ∧ some k_ ≠ (.slice Ao11 l0.length co11 : Value).ownBlock ∧ some k_ ≠ (s_.2.2 : Value).ownBlock ∧ k_ ≠ gb918) s_.2.1 y923) ∧ (Kd.R k71 71 w' w0.heap.size (fun k_ => (P0_ k_ ∨ w.heap.size ≤ k_) ∧ some k_ ≠ (.slice Ao11 l0.length co11 : Value).ownBlock ∧ some k_ ≠ (s_.2.1 : Value).ownBlock ∧ k_ ≠ gb918) s_.2.2 y926) ∧ (w'.heap[gb918]? = some (.cells #[.int .i64 a1_0,.string a1_1,.int .i64 a1_2,.int .i64 a1_3,.int .i64 a1_4,.int .i64 a1_5,.int .i64 1,.int .i64 (wrap64 (a2 + t919)),.int .i64 a1_8] 71 (0,0))) ∧ (Kept w w' (fun k_ => P0_ k_)) ∧ (Below w0.heap.size w0 w')) ?_ ?_
    rotate_left
    ·intro hCont
     refine two_ (i:=0) (j:=4) (Ni:=some 19) (Nj:=some 23) #[true,true,false,true,false,false,false,false] #[false,true,false,true,true,false,false,false] rfl rfl rfl rfl (two_of HT_.out (by kernel_rfl)) (by decide) (by decide) (fun K hK => ?_) (fun K hK => ?_)
     ·skip
      refine Kd.R_lit_step k71 _ 71 ?hg (N:=19) ?hd (xs:=([] : List (S71))) (inner:=[]) (ok:=fun _ => True) (okp:=fun _ => True) ?hr ?hp (fun _ hk => hk) trivial (Below.refl _ _) (Nat.le_refl _) (by simp) ?_;(case hd => rfl);(case hg => rfl);(case hr => first|(go_simp;done)|(go_simp;rfl));(case hp => exact (Reps.none _ _))
      intro v921 w17 ho18 hb hg_ hnew_
      clear hg_ hnew_
      (first|rw [← Ny920.out] at ho18|(simp only [Int.reduceToNat] at ho18;rw [← Ny920.out] at ho18))
      have n0_:=aMk (Kd.R_elder' (by (with_reducible repeat (first|apply Kd.R_alloc|apply Kd.R_drewN|apply Kd.R_drew));exact HO0.out) (Kd.R_base ho18) hb)
      have n1_:=aMk (Kd.R_lower (Kd.R_newB (Kd.R_new' (Kd.R_newM (M:=fun k_ => (P0_ k_ ∨ w.heap.size ≤ k_)) ho18 (by first|exact HK.out.1|exact (show Kept w _ (fun k_ => P0_ k_) from by repeat (first|(with_reducible first|exact HK.out|apply Kept.alloc|apply Kept.drewN|apply Kept.drew|refine Kept.setCell ?_ (.inr GW918.out) _)|exact HK.out)).1) (fun k_ h_ => .inr h_)) (Kd.R_lt (by (with_reducible repeat (first|apply Kd.R_alloc|apply Kd.R_drewN|apply Kd.R_drew));exact HO0.out))) (g:=gb918) (o:=.cells #[.int .i64 a1_0,.string a1_1,.int .i64 a1_2,.int .i64 a1_3,.int .i64 a1_4,.int .i64 a1_5,.int .i64 1,.int .i64 (wrap64 (a2 + t919)),.int .i64 a1_8] 71 (0,0)) (by (with_reducible repeat (first|refine bDn ?_ _|refine bDr ?_|refine bAl ?_ _));exact BK918.out)) (below_size (by repeat (first|(with_reducible first|exact HB.out|apply bwA|apply bwN|apply bw1|refine below_set ?_ GE918.out)|exact HB.out))))
      have n2_:=aMk (blk_below (g:=gb918) (o:=.cells #[.int .i64 a1_0,.string a1_1,.int .i64 a1_2,.int .i64 a1_3,.int .i64 a1_4,.int .i64 a1_5,.int .i64 1,.int .i64 (wrap64 (a2 + t919)),.int .i64 a1_8] 71 (0,0)) (by (with_reducible repeat (first|refine bDn ?_ _|refine bDr ?_|refine bAl ?_ _));exact BK918.out) hb)
      have n3_:=aMk (Kept.below (S:=(fun k_ => P0_ k_)) (by repeat (first|(with_reducible first|exact HK.out|apply Kept.alloc|apply Kept.drewN|apply Kept.drew|refine Kept.setCell ?_ (.inr GW918.out) _)|exact HK.out)) hb)
      have n4_:=aMk (below_step (by repeat (first|(with_reducible first|exact HB.out|apply bwA|apply bwN|apply bw1|refine below_set ?_ GE918.out)|exact HB.out)) hb)
      clear HO0
      clear BK918
      clear HK
      clear HB
      have HO0:=n0_
      have HO922:=n1_
      have BK918:=n2_
      have HK:=n3_
      have HB:=n4_
      clear n0_ n1_ n2_ n3_ n4_
      clear hb ho18
      refine hK.out _ _ ⟨(bCe BK918.out 0).trans rfl,(bCe BK918.out 1).trans rfl,(bCe BK918.out 2).trans rfl,(bCe BK918.out 3).trans rfl,(bCe BK918.out 4).trans rfl,(bCe BK918.out 5).trans rfl,(bCe BK918.out 6).trans rfl,(bCe BK918.out 7).trans rfl,(bCe BK918.out 8).trans rfl⟩ (fun hHeld => ?_)
      clear hK K
      refine norm_ (a':=?_) ?_ ?_
      rotate_left
      ·show Act.put _ (some 19) _ = _
       simp only [Act.put,List.setIfInBounds_toArray,List.set_cons_zero,List.set_cons_succ,i64_w,i32_w]
       rfl
      refine two_ (i:=2) (j:=4) (Ni:=some 21) (Nj:=some 23) #[true,true,true,true,false,false,false,false] #[true,true,false,true,true,false,false,false] rfl rfl rfl rfl (two_of HT_.out (by kernel_rfl)) (by decide) (by decide) (fun K hK => ?_) (fun K hK => ?_)
      ·skip
       refine Kd.R_append_rows_step k71 (w0:=w0) w0.heap.size (by rfl) (.tmp 19) (.tmp 20) 40 71 (.agg #[(.int .i64 0),(.string ⟨#[]⟩),(.int .i64 0),(.int .i64 0),(.int .i64 0),(.int .i64 0),(.int .i64 0),(.int .i64 0),(.int .i64 0)]) 80 rfl Try.underlying40 info71 rfl (by decide) (by omega) v921 y920 l0 _ _ _ (fun k_ => (P0_ k_ ∨ w.heap.size ≤ k_) ∧ some k_ ≠ (.slice Ao11 l0.length co11 : Value).ownBlock ∧ k_ ≠ gb918) (fun _ => False) rfl rfl ?aO ?aR (fun _ _ h => h) (fun _ h => h.elim) ?aF ?aB ?aS ?aL ?_
       (case aR => repeat (first|exact (Kd.R_reads' HO0.out).2.2|(with_reducible refine Kd.C_alloc ?_ _)|(with_reducible refine Kd.C_drewN ?_ _)|(with_reducible refine Kd.C_drew ?_)))
       (case aB => exact (by repeat (first|(with_reducible first|exact HB.out|apply bwA|apply bwN|apply bw1|refine below_set ?_ GE918.out)|exact HB.out)))
       (case aF => exact (fun k_ hk => ⟨(.inr (Nat.le_trans (by first|exact HK.out.1|exact (show Kept w _ (fun k_ => P0_ k_) from by repeat (first|(with_reducible first|exact HK.out|apply Kept.alloc|apply Kept.drewN|apply Kept.drew|refine Kept.setCell ?_ (.inr GW918.out) _)|exact HK.out)).1) hk)),Kd.fresh' (Kd.R_lt (by (with_reducible repeat (first|apply Kd.R_alloc|apply Kd.R_drewN|apply Kd.R_drew));exact HO0.out)) k_ hk,Kd.freshB (g:=gb918) (o:=.cells #[.int .i64 a1_0,.string a1_1,.int .i64 a1_2,.int .i64 a1_3,.int .i64 a1_4,.int .i64 a1_5,.int .i64 1,.int .i64 (wrap64 (a2 + t919)),.int .i64 a1_8] 71 (0,0)) (by (with_reducible repeat (first|refine bDn ?_ _|refine bDr ?_|refine bAl ?_ _));exact BK918.out) k_ hk⟩))
       (case aO => exact (by (with_reducible repeat (first|apply Kd.R_alloc|apply Kd.R_drewN|apply Kd.R_drew));exact Kd.R_mono HO922.out (fun _ hk => ⟨hk.1.1.1,⟨hk.1.2,hk.2⟩⟩)))
       (case aS => exact (below_size (by repeat (first|(with_reducible first|exact HB.out|apply bwA|apply bwN|apply bw1|refine below_set ?_ GE918.out)|exact HB.out))))
       (case aL => have:=LMc8.out;omega)
       intro v924 w19 ho hb hg hat
       rw [← Ny923.out] at ho
       have n0_:=aMk (Kd.R_after (ok:=(fun k_ => (P0_ k_ ∨ w.heap.size ≤ k_) ∧ k_ ≠ gb918)) (by (with_reducible repeat (first|apply Kd.R_alloc|apply Kd.R_drewN|apply Kd.R_drew));exact HO0.out) hg hat)
       have n1_:=aMk (blk_grown (g:=gb918) (o:=.cells #[.int .i64 a1_0,.string a1_1,.int .i64 a1_2,.int .i64 a1_3,.int .i64 a1_4,.int .i64 a1_5,.int .i64 1,.int .i64 (wrap64 (a2 + t919)),.int .i64 a1_8] 71 (0,0)) (by (with_reducible repeat (first|refine bDn ?_ _|refine bDr ?_|refine bAl ?_ _));exact BK918.out) hg (Kd.R_away HO922.out (fun _ hk => hk.2)))
       have n2_:=aMk (hb)
       have n3_:=aMk (Kept.of_grown (S:=(fun k_ => P0_ k_)) hg (by repeat (first|(with_reducible first|exact HK.out|apply Kept.alloc|apply Kept.drewN|apply Kept.drew|refine Kept.setCell ?_ (.inr GW918.out) _)|exact HK.out)) (fun k_ e_ => (HO922.out.1 k_ e_).1.1.1))
       have n4_:=aMk (ho)
       clear HO0
       clear BK918
       clear HB
       clear HK
       clear HO922
       have HO0:=n0_
       have BK918:=n1_
       have HB:=n2_
       have HK:=n3_
       have HO925:=n4_
       clear n0_ n1_ n2_ n3_ n4_
       clear ho hb hg hat
       refine hK.out _ _ ⟨(bCe BK918.out 0).trans rfl,(bCe BK918.out 1).trans rfl,(bCe BK918.out 2).trans rfl,(bCe BK918.out 3).trans rfl,(bCe BK918.out 4).trans rfl,(bCe BK918.out 5).trans rfl,(bCe BK918.out 6).trans rfl,(bCe BK918.out 7).trans rfl,(bCe BK918.out 8).trans rfl⟩ (fun hHeld => ?_)
       clear hK K
       refine norm_ (a':=?_) ?_ ?_
       rotate_left
       ·show Act.put _ (some 21) _ = _
        simp only [Act.put,List.setIfInBounds_toArray,List.set_cons_zero,List.set_cons_succ,i64_w,i32_w]
        rfl
       refine one_ (i:=4) (N:=some 23) #[true,true,true,true,true,false,false,false] rfl rfl (one_of HT_.out (by kernel_rfl)) (by decide) (fun K hK => ?_)
       refine Kd.R_lit_step k71 _ 71 ?hg (N:=23) ?hd (xs:=([(⟨a1_0,a1_1,a1_2,a1_3,a1_4,a1_5,1,wrap64 (a2 + t919),a1_8⟩ : S71)] : List (S71))) (inner:=[.int .i64 a1_0,.string a1_1,.int .i64 a1_2,.int .i64 a1_3,.int .i64 a1_4,.int .i64 a1_5,.int .i64 1,.int .i64 (wrap64 (a2 + t919)),.int .i64 a1_8]) (ok:=fun _ => True) (okp:=fun _ => True) ?hr ?hp (fun _ hk => hk) trivial (Below.refl _ _) (Nat.le_refl _) (by simp) ?_;(case hd => rfl);(case hg => rfl);(case hr => first|(go_simp;done)|(go_simp;rfl));(case hp => exact (Reps.c9 (show Kd.M k71 _ _ _ (⟨a1_0,a1_1,a1_2,a1_3,a1_4,a1_5,1,wrap64 (a2 + t919),a1_8⟩ : S71) [.int .i64 a1_0,.string a1_1,.int .i64 a1_2,.int .i64 a1_3,.int .i64 a1_4,.int .i64 a1_5,.int .i64 1,.int .i64 (wrap64 (a2 + t919)),.int .i64 a1_8] from (k71_mkM _ _ _ (⟨a1_0,a1_1,a1_2,a1_3,a1_4,a1_5,1,wrap64 (a2 + t919),a1_8⟩ : S71) )) (Reps.none _ _)))
       intro v927 w20 ho21 hb hg_ hnew_
       clear hg_ hnew_
       (first|rw [← Ny926.out] at ho21|(simp only [Int.reduceToNat] at ho21;rw [← Ny926.out] at ho21))
       have n0_:=aMk (Kd.R_elder' (by (with_reducible repeat (first|apply Kd.R_alloc|apply Kd.R_drewN|apply Kd.R_drew));exact HO0.out) (Kd.R_base ho21) hb)
       have n1_:=aMk (Kd.R_elder' (by (with_reducible repeat (first|apply Kd.R_alloc|apply Kd.R_drewN|apply Kd.R_drew));exact HO925.out) (Kd.R_base ho21) hb)
       have n2_:=aMk (Kd.R_lower (Kd.R_newB (Kd.R_new' (Kd.R_new' (Kd.R_newM (M:=fun k_ => (P0_ k_ ∨ w.heap.size ≤ k_)) ho21 (by first|exact HK.out.1|exact (show Kept w _ (fun k_ => P0_ k_) from by repeat (first|(with_reducible first|exact HK.out|apply Kept.alloc|apply Kept.drewN|apply Kept.drew|refine Kept.setCell ?_ (.inr GW918.out) _)|exact HK.out)).1) (fun k_ h_ => .inr h_)) (Kd.R_lt (by (with_reducible repeat (first|apply Kd.R_alloc|apply Kd.R_drewN|apply Kd.R_drew));exact HO0.out))) (Kd.R_lt (by (with_reducible repeat (first|apply Kd.R_alloc|apply Kd.R_drewN|apply Kd.R_drew));exact HO925.out))) (g:=gb918) (o:=.cells #[.int .i64 a1_0,.string a1_1,.int .i64 a1_2,.int .i64 a1_3,.int .i64 a1_4,.int .i64 a1_5,.int .i64 1,.int .i64 (wrap64 (a2 + t919)),.int .i64 a1_8] 71 (0,0)) (by (with_reducible repeat (first|refine bDn ?_ _|refine bDr ?_|refine bAl ?_ _));exact BK918.out)) (below_size (by repeat (first|(with_reducible first|exact HB.out|apply bwA|apply bwN|apply bw1|refine below_set ?_ GE918.out)|exact HB.out))))
       have n3_:=aMk (blk_below (g:=gb918) (o:=.cells #[.int .i64 a1_0,.string a1_1,.int .i64 a1_2,.int .i64 a1_3,.int .i64 a1_4,.int .i64 a1_5,.int .i64 1,.int .i64 (wrap64 (a2 + t919)),.int .i64 a1_8] 71 (0,0)) (by (with_reducible repeat (first|refine bDn ?_ _|refine bDr ?_|refine bAl ?_ _));exact BK918.out) hb)
       have n4_:=aMk (Kept.below (S:=(fun k_ => P0_ k_)) (by repeat (first|(with_reducible first|exact HK.out|apply Kept.alloc|apply Kept.drewN|apply Kept.drew|refine Kept.setCell ?_ (.inr GW918.out) _)|exact HK.out)) hb)
       have n5_:=aMk (below_step (by repeat (first|(with_reducible first|exact HB.out|apply bwA|apply bwN|apply bw1|refine below_set ?_ GE918.out)|exact HB.out)) hb)
       clear HO0
       clear HO925
       clear BK918
       clear HK
       clear HB
       have HO0:=n0_
       have HO925:=n1_
       have HO928:=n2_
       have BK918:=n3_
       have HK:=n4_
       have HB:=n5_
       clear n0_ n1_ n2_ n3_ n4_ n5_
       clear hb ho21
       refine hK.out _ _ ⟨(bCe BK918.out 0).trans rfl,(bCe BK918.out 1).trans rfl,(bCe BK918.out 2).trans rfl,(bCe BK918.out 3).trans rfl,(bCe BK918.out 4).trans rfl,(bCe BK918.out 5).trans rfl,(bCe BK918.out 6).trans rfl,(bCe BK918.out 7).trans rfl,(bCe BK918.out 8).trans rfl⟩ (fun hHeld => ?_)
       clear hK K
       refine norm_ (a':=?_) ?_ ?_
       rotate_left
       ·show Act.put _ (some 23) _ = _
        simp only [Act.put,List.setIfInBounds_toArray,List.set_cons_zero,List.set_cons_succ,i64_w,i32_w]
        rfl
       exact norm_ (by simp only [putAll,Act.put,List.setIfInBounds_toArray,List.set_cons_zero,List.set_cons_succ]) (hCont (v921,v924,v927) _ ⟨hHeld,(by (with_reducible repeat (first|apply Kd.R_alloc|apply Kd.R_drewN|apply Kd.R_drew));exact Kd.R_mono HO0.out (fun _ hk => ⟨hk.1.1.1,⟨hk.1.2,⟨hk.2,hk.1.1.2⟩⟩⟩)),(by (with_reducible repeat (first|apply Kd.R_alloc|apply Kd.R_drewN|apply Kd.R_drew));exact Kd.R_mono HO925.out (fun _ hk => ⟨hk.1.1,⟨hk.1.2.1,⟨hk.2,hk.1.2.2⟩⟩⟩)),(by (with_reducible repeat (first|apply Kd.R_alloc|apply Kd.R_drewN|apply Kd.R_drew));exact Kd.R_mono HO928.out (fun _ hk => ⟨hk.1.1.1.1,⟨hk.1.1.2,⟨hk.1.2,hk.2⟩⟩⟩)),(by (with_reducible repeat (first|refine bDn ?_ _|refine bDr ?_|refine bAl ?_ _));exact BK918.out),(by repeat (first|(with_reducible first|exact HK.out|apply Kept.alloc|apply Kept.drewN|apply Kept.drew|refine Kept.setCell ?_ (.inr GW918.out) _)|exact HK.out)),(by repeat (first|(with_reducible first|exact HB.out|apply bwA|apply bwN|apply bw1|refine below_set ?_ GE918.out)|exact HB.out))⟩)
      ·skip
       refine Kd.R_lit_step k71 _ 71 ?hg (N:=23) ?hd (xs:=([(⟨a1_0,a1_1,a1_2,a1_3,a1_4,a1_5,1,wrap64 (a2 + t919),a1_8⟩ : S71)] : List (S71))) (inner:=[.int .i64 a1_0,.string a1_1,.int .i64 a1_2,.int .i64 a1_3,.int .i64 a1_4,.int .i64 a1_5,.int .i64 1,.int .i64 (wrap64 (a2 + t919)),.int .i64 a1_8]) (ok:=fun _ => True) (okp:=fun _ => True) ?hr ?hp (fun _ hk => hk) trivial (Below.refl _ _) (Nat.le_refl _) (by simp) ?_;(case hd => rfl);(case hg => rfl);(case hr => first|(go_simp;done)|(go_simp;rfl));(case hp => exact (Reps.c9 (show Kd.M k71 _ _ _ (⟨a1_0,a1_1,a1_2,a1_3,a1_4,a1_5,1,wrap64 (a2 + t919),a1_8⟩ : S71) [.int .i64 a1_0,.string a1_1,.int .i64 a1_2,.int .i64 a1_3,.int .i64 a1_4,.int .i64 a1_5,.int .i64 1,.int .i64 (wrap64 (a2 + t919)),.int .i64 a1_8] from (k71_mkM _ _ _ (⟨a1_0,a1_1,a1_2,a1_3,a1_4,a1_5,1,wrap64 (a2 + t919),a1_8⟩ : S71) )) (Reps.none _ _)))
       intro v927 w19 ho20 hb hg_ hnew_
       clear hg_ hnew_
       (first|rw [← Ny926.out] at ho20|(simp only [Int.reduceToNat] at ho20;rw [← Ny926.out] at ho20))
       have n0_:=aMk (Kd.R_elder' (by (with_reducible repeat (first|apply Kd.R_alloc|apply Kd.R_drewN|apply Kd.R_drew));exact HO0.out) (Kd.R_base ho20) hb)
       have n1_:=aMk (Kd.R_elder' (by (with_reducible repeat (first|apply Kd.R_alloc|apply Kd.R_drewN|apply Kd.R_drew));exact HO922.out) (Kd.R_base ho20) hb)
       have n2_:=aMk (Kd.R_lower (Kd.R_newB (Kd.R_new' (Kd.R_new' (Kd.R_newM (M:=fun k_ => (P0_ k_ ∨ w.heap.size ≤ k_)) ho20 (by first|exact HK.out.1|exact (show Kept w _ (fun k_ => P0_ k_) from by repeat (first|(with_reducible first|exact HK.out|apply Kept.alloc|apply Kept.drewN|apply Kept.drew|refine Kept.setCell ?_ (.inr GW918.out) _)|exact HK.out)).1) (fun k_ h_ => .inr h_)) (Kd.R_lt (by (with_reducible repeat (first|apply Kd.R_alloc|apply Kd.R_drewN|apply Kd.R_drew));exact HO0.out))) (Kd.R_lt (by (with_reducible repeat (first|apply Kd.R_alloc|apply Kd.R_drewN|apply Kd.R_drew));exact HO922.out))) (g:=gb918) (o:=.cells #[.int .i64 a1_0,.string a1_1,.int .i64 a1_2,.int .i64 a1_3,.int .i64 a1_4,.int .i64 a1_5,.int .i64 1,.int .i64 (wrap64 (a2 + t919)),.int .i64 a1_8] 71 (0,0)) (by (with_reducible repeat (first|refine bDn ?_ _|refine bDr ?_|refine bAl ?_ _));exact BK918.out)) (below_size (by repeat (first|(with_reducible first|exact HB.out|apply bwA|apply bwN|apply bw1|refine below_set ?_ GE918.out)|exact HB.out))))
       have n3_:=aMk (blk_below (g:=gb918) (o:=.cells #[.int .i64 a1_0,.string a1_1,.int .i64 a1_2,.int .i64 a1_3,.int .i64 a1_4,.int .i64 a1_5,.int .i64 1,.int .i64 (wrap64 (a2 + t919)),.int .i64 a1_8] 71 (0,0)) (by (with_reducible repeat (first|refine bDn ?_ _|refine bDr ?_|refine bAl ?_ _));exact BK918.out) hb)
       have n4_:=aMk (Kept.below (S:=(fun k_ => P0_ k_)) (by repeat (first|(with_reducible first|exact HK.out|apply Kept.alloc|apply Kept.drewN|apply Kept.drew|refine Kept.setCell ?_ (.inr GW918.out) _)|exact HK.out)) hb)
       have n5_:=aMk (below_step (by repeat (first|(with_reducible first|exact HB.out|apply bwA|apply bwN|apply bw1|refine below_set ?_ GE918.out)|exact HB.out)) hb)
       clear HO0
       clear HO922
       clear BK918
       clear HK
       clear HB
       have HO0:=n0_
       have HO922:=n1_
       have HO928:=n2_
       have BK918:=n3_
       have HK:=n4_
       have HB:=n5_
       clear n0_ n1_ n2_ n3_ n4_ n5_
       clear hb ho20
       refine hK.out _ _ ⟨(bCe BK918.out 0).trans rfl,(bCe BK918.out 1).trans rfl,(bCe BK918.out 2).trans rfl,(bCe BK918.out 3).trans rfl,(bCe BK918.out 4).trans rfl,(bCe BK918.out 5).trans rfl,(bCe BK918.out 6).trans rfl,(bCe BK918.out 7).trans rfl,(bCe BK918.out 8).trans rfl⟩ (fun hHeld => ?_)
       clear hK K
       refine norm_ (a':=?_) ?_ ?_
       rotate_left
       ·show Act.put _ (some 23) _ = _
        simp only [Act.put,List.setIfInBounds_toArray,List.set_cons_zero,List.set_cons_succ,i64_w,i32_w]
        rfl
       refine one_ (i:=2) (N:=some 21) #[true,true,true,true,true,false,false,false] rfl rfl (one_of HT_.out (by kernel_rfl)) (by decide) (fun K hK => ?_)
       refine Kd.R_append_rows_step k71 (w0:=w0) w0.heap.size (by rfl) (.tmp 19) (.tmp 20) 40 71 (.agg #[(.int .i64 0),(.string ⟨#[]⟩),(.int .i64 0),(.int .i64 0),(.int .i64 0),(.int .i64 0),(.int .i64 0),(.int .i64 0),(.int .i64 0)]) 80 rfl Try.underlying40 info71 rfl (by decide) (by omega) v921 y920 l0 _ _ _ (fun k_ => (P0_ k_ ∨ w.heap.size ≤ k_) ∧ some k_ ≠ (.slice Ao11 l0.length co11 : Value).ownBlock ∧ some k_ ≠ (v927 : Value).ownBlock ∧ k_ ≠ gb918) (fun _ => False) rfl rfl ?aO ?aR (fun _ _ h => h) (fun _ h => h.elim) ?aF ?aB ?aS ?aL ?_
       (case aR => repeat (first|exact (Kd.R_reads' HO0.out).2.2|(with_reducible refine Kd.C_alloc ?_ _)|(with_reducible refine Kd.C_drewN ?_ _)|(with_reducible refine Kd.C_drew ?_)))
       (case aB => exact (by repeat (first|(with_reducible first|exact HB.out|apply bwA|apply bwN|apply bw1|refine below_set ?_ GE918.out)|exact HB.out)))
       (case aF => exact (fun k_ hk => ⟨(.inr (Nat.le_trans (by first|exact HK.out.1|exact (show Kept w _ (fun k_ => P0_ k_) from by repeat (first|(with_reducible first|exact HK.out|apply Kept.alloc|apply Kept.drewN|apply Kept.drew|refine Kept.setCell ?_ (.inr GW918.out) _)|exact HK.out)).1) hk)),Kd.fresh' (Kd.R_lt (by (with_reducible repeat (first|apply Kd.R_alloc|apply Kd.R_drewN|apply Kd.R_drew));exact HO0.out)) k_ hk,Kd.fresh' (Kd.R_lt (by (with_reducible repeat (first|apply Kd.R_alloc|apply Kd.R_drewN|apply Kd.R_drew));exact HO928.out)) k_ hk,Kd.freshB (g:=gb918) (o:=.cells #[.int .i64 a1_0,.string a1_1,.int .i64 a1_2,.int .i64 a1_3,.int .i64 a1_4,.int .i64 a1_5,.int .i64 1,.int .i64 (wrap64 (a2 + t919)),.int .i64 a1_8] 71 (0,0)) (by (with_reducible repeat (first|refine bDn ?_ _|refine bDr ?_|refine bAl ?_ _));exact BK918.out) k_ hk⟩))
       (case aO => exact (by (with_reducible repeat (first|apply Kd.R_alloc|apply Kd.R_drewN|apply Kd.R_drew));exact Kd.R_mono HO922.out (fun _ hk => ⟨hk.1.1.1.1,⟨hk.1.1.2,⟨hk.2,hk.1.2⟩⟩⟩)))
       (case aS => exact (below_size (by repeat (first|(with_reducible first|exact HB.out|apply bwA|apply bwN|apply bw1|refine below_set ?_ GE918.out)|exact HB.out))))
       (case aL => have:=LMc8.out;omega)
       intro v924 w21 ho hb hg hat
       rw [← Ny923.out] at ho
       have n0_:=aMk (Kd.R_after (ok:=(fun k_ => (P0_ k_ ∨ w.heap.size ≤ k_) ∧ some k_ ≠ (v927 : Value).ownBlock ∧ k_ ≠ gb918)) (by (with_reducible repeat (first|apply Kd.R_alloc|apply Kd.R_drewN|apply Kd.R_drew));exact Kd.R_mono HO0.out (fun _ hk => ⟨⟨hk.1.1.1,⟨hk.2,hk.1.1.2⟩⟩,hk.1.2⟩)) hg hat)
       have n1_:=aMk (blk_grown (g:=gb918) (o:=.cells #[.int .i64 a1_0,.string a1_1,.int .i64 a1_2,.int .i64 a1_3,.int .i64 a1_4,.int .i64 a1_5,.int .i64 1,.int .i64 (wrap64 (a2 + t919)),.int .i64 a1_8] 71 (0,0)) (by (with_reducible repeat (first|refine bDn ?_ _|refine bDr ?_|refine bAl ?_ _));exact BK918.out) hg (Kd.R_away HO922.out (fun _ hk => hk.1.2)))
       have n2_:=aMk (Kd.R_after (ok:=(fun k_ => (P0_ k_ ∨ w.heap.size ≤ k_) ∧ some k_ ≠ (.slice Ao11 l0.length co11 : Value).ownBlock ∧ k_ ≠ gb918)) (by (with_reducible repeat (first|apply Kd.R_alloc|apply Kd.R_drewN|apply Kd.R_drew));exact Kd.R_mono HO928.out (fun _ hk => ⟨⟨hk.1.1.1.1,⟨hk.1.1.2,hk.2⟩⟩,hk.1.2⟩)) hg hat)
       have n3_:=aMk (hb)
       have n4_:=aMk (Kept.of_grown (S:=(fun k_ => P0_ k_)) hg (by repeat (first|(with_reducible first|exact HK.out|apply Kept.alloc|apply Kept.drewN|apply Kept.drew|refine Kept.setCell ?_ (.inr GW918.out) _)|exact HK.out)) (fun k_ e_ => (HO922.out.1 k_ e_).1.1.1.1))
       have n5_:=aMk (ho)
       clear HO0
       clear BK918
       clear HO928
       clear HB
       clear HK
       clear HO922
       have HO0:=n0_
       have BK918:=n1_
       have HO928:=n2_
       have HB:=n3_
       have HK:=n4_
       have HO925:=n5_
       clear n0_ n1_ n2_ n3_ n4_ n5_
       clear ho hb hg hat
       refine hK.out _ _ ⟨(bCe BK918.out 0).trans rfl,(bCe BK918.out 1).trans rfl,(bCe BK918.out 2).trans rfl,(bCe BK918.out 3).trans rfl,(bCe BK918.out 4).trans rfl,(bCe BK918.out 5).trans rfl,(bCe BK918.out 6).trans rfl,(bCe BK918.out 7).trans rfl,(bCe BK918.out 8).trans rfl⟩ (fun hHeld => ?_)
       clear hK K
       refine norm_ (a':=?_) ?_ ?_
       rotate_left
       ·show Act.put _ (some 21) _ = _
        simp only [Act.put,List.setIfInBounds_toArray,List.set_cons_zero,List.set_cons_succ,i64_w,i32_w]
        rfl
       exact norm_ (by simp only [putAll,Act.put,List.setIfInBounds_toArray,List.set_cons_zero,List.set_cons_succ]) (hCont (v921,v924,v927) _ ⟨hHeld,(by (with_reducible repeat (first|apply Kd.R_alloc|apply Kd.R_drewN|apply Kd.R_drew));exact Kd.R_mono HO0.out (fun _ hk => ⟨hk.1.1,⟨hk.2,⟨hk.1.2.1,hk.1.2.2⟩⟩⟩)),(by (with_reducible repeat (first|apply Kd.R_alloc|apply Kd.R_drewN|apply Kd.R_drew));exact HO925.out),(by (with_reducible repeat (first|apply Kd.R_alloc|apply Kd.R_drewN|apply Kd.R_drew));exact Kd.R_mono HO928.out (fun _ hk => ⟨hk.1.1,⟨hk.1.2.1,⟨hk.2,hk.1.2.2⟩⟩⟩)),(by (with_reducible repeat (first|refine bDn ?_ _|refine bDr ?_|refine bAl ?_ _));exact BK918.out),(by repeat (first|(with_reducible first|exact HK.out|apply Kept.alloc|apply Kept.drewN|apply Kept.drew|refine Kept.setCell ?_ (.inr GW918.out) _)|exact HK.out)),(by repeat (first|(with_reducible first|exact HB.out|apply bwA|apply bwN|apply bw1|refine below_set ?_ GE918.out)|exact HB.out))⟩)
     ·skip
      refine Kd.R_lit_step k71 _ 71 ?hg (N:=23) ?hd (xs:=([(⟨a1_0,a1_1,a1_2,a1_3,a1_4,a1_5,1,wrap64 (a2 + t919),a1_8⟩ : S71)] : List (S71))) (inner:=[.int .i64 a1_0,.string a1_1,.int .i64 a1_2,.int .i64 a1_3,.int .i64 a1_4,.int .i64 a1_5,.int .i64 1,.int .i64 (wrap64 (a2 + t919)),.int .i64 a1_8]) (ok:=fun _ => True) (okp:=fun _ => True) ?hr ?hp (fun _ hk => hk) trivial (Below.refl _ _) (Nat.le_refl _) (by simp) ?_;(case hd => rfl);(case hg => rfl);(case hr => first|(go_simp;done)|(go_simp;rfl));(case hp => exact (Reps.c9 (show Kd.M k71 _ _ _ (⟨a1_0,a1_1,a1_2,a1_3,a1_4,a1_5,1,wrap64 (a2 + t919),a1_8⟩ : S71) [.int .i64 a1_0,.string a1_1,.int .i64 a1_2,.int .i64 a1_3,.int .i64 a1_4,.int .i64 a1_5,.int .i64 1,.int .i64 (wrap64 (a2 + t919)),.int .i64 a1_8] from (k71_mkM _ _ _ (⟨a1_0,a1_1,a1_2,a1_3,a1_4,a1_5,1,wrap64 (a2 + t919),a1_8⟩ : S71) )) (Reps.none _ _)))
      intro v927 w17 ho18 hb hg_ hnew_
      clear hg_ hnew_
      (first|rw [← Ny926.out] at ho18|(simp only [Int.reduceToNat] at ho18;rw [← Ny926.out] at ho18))
      have n0_:=aMk (Kd.R_elder' (by (with_reducible repeat (first|apply Kd.R_alloc|apply Kd.R_drewN|apply Kd.R_drew));exact HO0.out) (Kd.R_base ho18) hb)
      have n1_:=aMk (Kd.R_lower (Kd.R_newB (Kd.R_new' (Kd.R_newM (M:=fun k_ => (P0_ k_ ∨ w.heap.size ≤ k_)) ho18 (by first|exact HK.out.1|exact (show Kept w _ (fun k_ => P0_ k_) from by repeat (first|(with_reducible first|exact HK.out|apply Kept.alloc|apply Kept.drewN|apply Kept.drew|refine Kept.setCell ?_ (.inr GW918.out) _)|exact HK.out)).1) (fun k_ h_ => .inr h_)) (Kd.R_lt (by (with_reducible repeat (first|apply Kd.R_alloc|apply Kd.R_drewN|apply Kd.R_drew));exact HO0.out))) (g:=gb918) (o:=.cells #[.int .i64 a1_0,.string a1_1,.int .i64 a1_2,.int .i64 a1_3,.int .i64 a1_4,.int .i64 a1_5,.int .i64 1,.int .i64 (wrap64 (a2 + t919)),.int .i64 a1_8] 71 (0,0)) (by (with_reducible repeat (first|refine bDn ?_ _|refine bDr ?_|refine bAl ?_ _));exact BK918.out)) (below_size (by repeat (first|(with_reducible first|exact HB.out|apply bwA|apply bwN|apply bw1|refine below_set ?_ GE918.out)|exact HB.out))))
      have n2_:=aMk (blk_below (g:=gb918) (o:=.cells #[.int .i64 a1_0,.string a1_1,.int .i64 a1_2,.int .i64 a1_3,.int .i64 a1_4,.int .i64 a1_5,.int .i64 1,.int .i64 (wrap64 (a2 + t919)),.int .i64 a1_8] 71 (0,0)) (by (with_reducible repeat (first|refine bDn ?_ _|refine bDr ?_|refine bAl ?_ _));exact BK918.out) hb)
      have n3_:=aMk (Kept.below (S:=(fun k_ => P0_ k_)) (by repeat (first|(with_reducible first|exact HK.out|apply Kept.alloc|apply Kept.drewN|apply Kept.drew|refine Kept.setCell ?_ (.inr GW918.out) _)|exact HK.out)) hb)
      have n4_:=aMk (below_step (by repeat (first|(with_reducible first|exact HB.out|apply bwA|apply bwN|apply bw1|refine below_set ?_ GE918.out)|exact HB.out)) hb)
      clear HO0
      clear BK918
      clear HK
      clear HB
      have HO0:=n0_
      have HO928:=n1_
      have BK918:=n2_
      have HK:=n3_
      have HB:=n4_
      clear n0_ n1_ n2_ n3_ n4_
      clear hb ho18
      refine hK.out _ _ ⟨(bCe BK918.out 0).trans rfl,(bCe BK918.out 1).trans rfl,(bCe BK918.out 2).trans rfl,(bCe BK918.out 3).trans rfl,(bCe BK918.out 4).trans rfl,(bCe BK918.out 5).trans rfl,(bCe BK918.out 6).trans rfl,(bCe BK918.out 7).trans rfl,(bCe BK918.out 8).trans rfl⟩ (fun hHeld => ?_)
      clear hK K
      refine norm_ (a':=?_) ?_ ?_
      rotate_left
      ·show Act.put _ (some 23) _ = _
       simp only [Act.put,List.setIfInBounds_toArray,List.set_cons_zero,List.set_cons_succ,i64_w,i32_w]
       rfl
      refine one_ (i:=0) (N:=some 19) #[true,true,false,true,true,false,false,false] rfl rfl (one_of HT_.out (by kernel_rfl)) (by decide) (fun K hK => ?_)
      refine Kd.R_lit_step k71 _ 71 ?hg (N:=19) ?hd (xs:=([] : List (S71))) (inner:=[]) (ok:=fun _ => True) (okp:=fun _ => True) ?hr ?hp (fun _ hk => hk) trivial (Below.refl _ _) (Nat.le_refl _) (by simp) ?_;(case hd => rfl);(case hg => rfl);(case hr => first|(go_simp;done)|(go_simp;rfl));(case hp => exact (Reps.none _ _))
      intro v921 w19 ho20 hb hg_ hnew_
      clear hg_ hnew_
      (first|rw [← Ny920.out] at ho20|(simp only [Int.reduceToNat] at ho20;rw [← Ny920.out] at ho20))
      have n0_:=aMk (Kd.R_elder' (by (with_reducible repeat (first|apply Kd.R_alloc|apply Kd.R_drewN|apply Kd.R_drew));exact HO0.out) (Kd.R_base ho20) hb)
      have n1_:=aMk (Kd.R_elder' (by (with_reducible repeat (first|apply Kd.R_alloc|apply Kd.R_drewN|apply Kd.R_drew));exact HO928.out) (Kd.R_base ho20) hb)
      have n2_:=aMk (Kd.R_lower (Kd.R_newB (Kd.R_new' (Kd.R_new' (Kd.R_newM (M:=fun k_ => (P0_ k_ ∨ w.heap.size ≤ k_)) ho20 (by first|exact HK.out.1|exact (show Kept w _ (fun k_ => P0_ k_) from by repeat (first|(with_reducible first|exact HK.out|apply Kept.alloc|apply Kept.drewN|apply Kept.drew|refine Kept.setCell ?_ (.inr GW918.out) _)|exact HK.out)).1) (fun k_ h_ => .inr h_)) (Kd.R_lt (by (with_reducible repeat (first|apply Kd.R_alloc|apply Kd.R_drewN|apply Kd.R_drew));exact HO0.out))) (Kd.R_lt (by (with_reducible repeat (first|apply Kd.R_alloc|apply Kd.R_drewN|apply Kd.R_drew));exact HO928.out))) (g:=gb918) (o:=.cells #[.int .i64 a1_0,.string a1_1,.int .i64 a1_2,.int .i64 a1_3,.int .i64 a1_4,.int .i64 a1_5,.int .i64 1,.int .i64 (wrap64 (a2 + t919)),.int .i64 a1_8] 71 (0,0)) (by (with_reducible repeat (first|refine bDn ?_ _|refine bDr ?_|refine bAl ?_ _));exact BK918.out)) (below_size (by repeat (first|(with_reducible first|exact HB.out|apply bwA|apply bwN|apply bw1|refine below_set ?_ GE918.out)|exact HB.out))))
      have n3_:=aMk (blk_below (g:=gb918) (o:=.cells #[.int .i64 a1_0,.string a1_1,.int .i64 a1_2,.int .i64 a1_3,.int .i64 a1_4,.int .i64 a1_5,.int .i64 1,.int .i64 (wrap64 (a2 + t919)),.int .i64 a1_8] 71 (0,0)) (by (with_reducible repeat (first|refine bDn ?_ _|refine bDr ?_|refine bAl ?_ _));exact BK918.out) hb)
      have n4_:=aMk (Kept.below (S:=(fun k_ => P0_ k_)) (by repeat (first|(with_reducible first|exact HK.out|apply Kept.alloc|apply Kept.drewN|apply Kept.drew|refine Kept.setCell ?_ (.inr GW918.out) _)|exact HK.out)) hb)
      have n5_:=aMk (below_step (by repeat (first|(with_reducible first|exact HB.out|apply bwA|apply bwN|apply bw1|refine below_set ?_ GE918.out)|exact HB.out)) hb)
      clear HO0
      clear HO928
      clear BK918
      clear HK
      clear HB
      have HO0:=n0_
      have HO928:=n1_
      have HO922:=n2_
      have BK918:=n3_
      have HK:=n4_
      have HB:=n5_
      clear n0_ n1_ n2_ n3_ n4_ n5_
      clear hb ho20
      refine hK.out _ _ ⟨(bCe BK918.out 0).trans rfl,(bCe BK918.out 1).trans rfl,(bCe BK918.out 2).trans rfl,(bCe BK918.out 3).trans rfl,(bCe BK918.out 4).trans rfl,(bCe BK918.out 5).trans rfl,(bCe BK918.out 6).trans rfl,(bCe BK918.out 7).trans rfl,(bCe BK918.out 8).trans rfl⟩ (fun hHeld => ?_)
      clear hK K
      refine norm_ (a':=?_) ?_ ?_
      rotate_left
      ·show Act.put _ (some 19) _ = _
       simp only [Act.put,List.setIfInBounds_toArray,List.set_cons_zero,List.set_cons_succ,i64_w,i32_w]
       rfl
      refine one_ (i:=2) (N:=some 21) #[true,true,true,true,true,false,false,false] rfl rfl (one_of HT_.out (by kernel_rfl)) (by decide) (fun K hK => ?_)
      refine Kd.R_append_rows_step k71 (w0:=w0) w0.heap.size (by rfl) (.tmp 19) (.tmp 20) 40 71 (.agg #[(.int .i64 0),(.string ⟨#[]⟩),(.int .i64 0),(.int .i64 0),(.int .i64 0),(.int .i64 0),(.int .i64 0),(.int .i64 0),(.int .i64 0)]) 80 rfl Try.underlying40 info71 rfl (by decide) (by omega) v921 y920 l0 _ _ _ (fun k_ => (P0_ k_ ∨ w.heap.size ≤ k_) ∧ some k_ ≠ (.slice Ao11 l0.length co11 : Value).ownBlock ∧ some k_ ≠ (v927 : Value).ownBlock ∧ k_ ≠ gb918) (fun _ => False) rfl rfl ?aO ?aR (fun _ _ h => h) (fun _ h => h.elim) ?aF ?aB ?aS ?aL ?_
      (case aR => repeat (first|exact (Kd.R_reads' HO0.out).2.2|(with_reducible refine Kd.C_alloc ?_ _)|(with_reducible refine Kd.C_drewN ?_ _)|(with_reducible refine Kd.C_drew ?_)))
      (case aB => exact (by repeat (first|(with_reducible first|exact HB.out|apply bwA|apply bwN|apply bw1|refine below_set ?_ GE918.out)|exact HB.out)))
      (case aF => exact (fun k_ hk => ⟨(.inr (Nat.le_trans (by first|exact HK.out.1|exact (show Kept w _ (fun k_ => P0_ k_) from by repeat (first|(with_reducible first|exact HK.out|apply Kept.alloc|apply Kept.drewN|apply Kept.drew|refine Kept.setCell ?_ (.inr GW918.out) _)|exact HK.out)).1) hk)),Kd.fresh' (Kd.R_lt (by (with_reducible repeat (first|apply Kd.R_alloc|apply Kd.R_drewN|apply Kd.R_drew));exact HO0.out)) k_ hk,Kd.fresh' (Kd.R_lt (by (with_reducible repeat (first|apply Kd.R_alloc|apply Kd.R_drewN|apply Kd.R_drew));exact HO928.out)) k_ hk,Kd.freshB (g:=gb918) (o:=.cells #[.int .i64 a1_0,.string a1_1,.int .i64 a1_2,.int .i64 a1_3,.int .i64 a1_4,.int .i64 a1_5,.int .i64 1,.int .i64 (wrap64 (a2 + t919)),.int .i64 a1_8] 71 (0,0)) (by (with_reducible repeat (first|refine bDn ?_ _|refine bDr ?_|refine bAl ?_ _));exact BK918.out) k_ hk⟩))
      (case aO => exact (by (with_reducible repeat (first|apply Kd.R_alloc|apply Kd.R_drewN|apply Kd.R_drew));exact Kd.R_mono HO922.out (fun _ hk => ⟨hk.1.1.1.1,⟨hk.1.1.2,⟨hk.1.2,hk.2⟩⟩⟩)))
      (case aS => exact (below_size (by repeat (first|(with_reducible first|exact HB.out|apply bwA|apply bwN|apply bw1|refine below_set ?_ GE918.out)|exact HB.out))))
      (case aL => have:=LMc8.out;omega)
      intro v924 w21 ho hb hg hat
      rw [← Ny923.out] at ho
      have n0_:=aMk (Kd.R_after (ok:=(fun k_ => (P0_ k_ ∨ w.heap.size ≤ k_) ∧ some k_ ≠ (v927 : Value).ownBlock ∧ k_ ≠ gb918)) (by (with_reducible repeat (first|apply Kd.R_alloc|apply Kd.R_drewN|apply Kd.R_drew));exact Kd.R_mono HO0.out (fun _ hk => ⟨⟨hk.1.1.1,⟨hk.1.2,hk.1.1.2⟩⟩,hk.2⟩)) hg hat)
      have n1_:=aMk (blk_grown (g:=gb918) (o:=.cells #[.int .i64 a1_0,.string a1_1,.int .i64 a1_2,.int .i64 a1_3,.int .i64 a1_4,.int .i64 a1_5,.int .i64 1,.int .i64 (wrap64 (a2 + t919)),.int .i64 a1_8] 71 (0,0)) (by (with_reducible repeat (first|refine bDn ?_ _|refine bDr ?_|refine bAl ?_ _));exact BK918.out) hg (Kd.R_away HO922.out (fun _ hk => hk.2)))
      have n2_:=aMk (Kd.R_after (ok:=(fun k_ => (P0_ k_ ∨ w.heap.size ≤ k_) ∧ some k_ ≠ (.slice Ao11 l0.length co11 : Value).ownBlock ∧ k_ ≠ gb918)) (by (with_reducible repeat (first|apply Kd.R_alloc|apply Kd.R_drewN|apply Kd.R_drew));exact Kd.R_mono HO928.out (fun _ hk => ⟨⟨hk.1.1.1.1,⟨hk.1.1.2,hk.1.2⟩⟩,hk.2⟩)) hg hat)
      have n3_:=aMk (hb)
      have n4_:=aMk (Kept.of_grown (S:=(fun k_ => P0_ k_)) hg (by repeat (first|(with_reducible first|exact HK.out|apply Kept.alloc|apply Kept.drewN|apply Kept.drew|refine Kept.setCell ?_ (.inr GW918.out) _)|exact HK.out)) (fun k_ e_ => (HO922.out.1 k_ e_).1.1.1.1))
      have n5_:=aMk (ho)
      clear HO0
      clear BK918
      clear HO928
      clear HB
      clear HK
      clear HO922
      have HO0:=n0_
      have BK918:=n1_
      have HO928:=n2_
      have HB:=n3_
      have HK:=n4_
      have HO925:=n5_
      clear n0_ n1_ n2_ n3_ n4_ n5_
      clear ho hb hg hat
      refine hK.out _ _ ⟨(bCe BK918.out 0).trans rfl,(bCe BK918.out 1).trans rfl,(bCe BK918.out 2).trans rfl,(bCe BK918.out 3).trans rfl,(bCe BK918.out 4).trans rfl,(bCe BK918.out 5).trans rfl,(bCe BK918.out 6).trans rfl,(bCe BK918.out 7).trans rfl,(bCe BK918.out 8).trans rfl⟩ (fun hHeld => ?_)
      clear hK K
      refine norm_ (a':=?_) ?_ ?_
      rotate_left
      ·show Act.put _ (some 21) _ = _
       simp only [Act.put,List.setIfInBounds_toArray,List.set_cons_zero,List.set_cons_succ,i64_w,i32_w]
       rfl
      exact norm_ (by simp only [putAll,Act.put,List.setIfInBounds_toArray,List.set_cons_zero,List.set_cons_succ]) (hCont (v921,v924,v927) _ ⟨hHeld,(by (with_reducible repeat (first|apply Kd.R_alloc|apply Kd.R_drewN|apply Kd.R_drew));exact Kd.R_mono HO0.out (fun _ hk => ⟨hk.1.1,⟨hk.2,⟨hk.1.2.1,hk.1.2.2⟩⟩⟩)),(by (with_reducible repeat (first|apply Kd.R_alloc|apply Kd.R_drewN|apply Kd.R_drew));exact HO925.out),(by (with_reducible repeat (first|apply Kd.R_alloc|apply Kd.R_drewN|apply Kd.R_drew));exact Kd.R_mono HO928.out (fun _ hk => ⟨hk.1.1,⟨hk.1.2.1,⟨hk.2,hk.1.2.2⟩⟩⟩)),(by (with_reducible repeat (first|refine bDn ?_ _|refine bDr ?_|refine bAl ?_ _));exact BK918.out),(by repeat (first|(with_reducible first|exact HK.out|apply Kept.alloc|apply Kept.drewN|apply Kept.drew|refine Kept.setCell ?_ (.inr GW918.out) _)|exact HK.out)),(by repeat (first|(with_reducible first|exact HB.out|apply bwA|apply bwN|apply bw1|refine below_set ?_ GE918.out)|exact HB.out))⟩)
    rintro ⟨v921,v924,v927⟩ w22 ⟨hS_,h0_,h1_,h2_,h3_,h4_,h5_⟩
    have n0_ : Aside0 (Kd.R k71 71 w22 w0.heap.size (fun k_ => (P0_ k_ ∨ w.heap.size ≤ k_) ∧ some k_ ≠ (v924 : Value).ownBlock ∧ some k_ ≠ (v927 : Value).ownBlock ∧ k_ ≠ gb918) (.slice Ao11 l0.length co11) l0):=⟨h0_⟩
    have n1_ : Aside0 (Kd.R k71 71 w22 w0.heap.size (fun k_ => (P0_ k_ ∨ w.heap.size ≤ k_) ∧ some k_ ≠ (.slice Ao11 l0.length co11 : Value).ownBlock ∧ some k_ ≠ (v927 : Value).ownBlock ∧ k_ ≠ gb918) v924 y923):=⟨h1_⟩
    have n2_ : Aside0 (Kd.R k71 71 w22 w0.heap.size (fun k_ => (P0_ k_ ∨ w.heap.size ≤ k_) ∧ some k_ ≠ (.slice Ao11 l0.length co11 : Value).ownBlock ∧ some k_ ≠ (v924 : Value).ownBlock ∧ k_ ≠ gb918) v927 y926):=⟨h2_⟩
    have n3_ : Aside0 (w22.heap[gb918]? = some (.cells #[.int .i64 a1_0,.string a1_1,.int .i64 a1_2,.int .i64 a1_3,.int .i64 a1_4,.int .i64 a1_5,.int .i64 1,.int .i64 (wrap64 (a2 + t919)),.int .i64 a1_8] 71 (0,0))):=⟨h3_⟩
    have n4_ : Aside0 (Kept w w22 (fun k_ => P0_ k_)):=⟨h4_⟩
    have n5_ : Aside0 (Below w0.heap.size w0 w22):=⟨h5_⟩
    clear HO0
    clear BK918
    clear HK
    clear HB
    clear h0_ h1_ h2_ h3_ h4_ h5_
    have HO0:=n0_
    have HO925:=n1_
    have HO928:=n2_
    have BK918:=n3_
    have HK:=n4_
    have HB:=n5_
    clear n0_ n1_ n2_ n3_ n4_ n5_
    have hHeld : w22.cell? ⟨gb918,0,none⟩ = some (.int .i64 a1_0) ∧ w22.cell? ⟨gb918,1,none⟩ = some (.string a1_1) ∧ w22.cell? ⟨gb918,2,none⟩ = some (.int .i64 a1_2) ∧ w22.cell? ⟨gb918,3,none⟩ = some (.int .i64 a1_3) ∧ w22.cell? ⟨gb918,4,none⟩ = some (.int .i64 a1_4) ∧ w22.cell? ⟨gb918,5,none⟩ = some (.int .i64 a1_5) ∧ w22.cell? ⟨gb918,6,none⟩ = some (.int .i64 1) ∧ w22.cell? ⟨gb918,7,none⟩ = some (.int .i64 (wrap64 (a2 + t919))) ∧ w22.cell? ⟨gb918,8,none⟩ = some (.int .i64 a1_8):=hS_
    obtain ⟨Ao24,co24,eo24⟩:=Kd.R_slice HO928.out
    (first|subst eo24|(injection eo24 with f1_ f2_ f3_;have f4_:=f1_.symm;have f5_:=f3_.symm;clear f1_ f2_ f3_;subst f4_;subst f5_))
    refine norm_ (a':=?_) ?_ ?_
    rotate_left
    ·simp only [putAll,Act.put,List.setIfInBounds_toArray,List.set_cons_zero,List.set_cons_succ]
     rfl
    refine one_ (i:=5) (N:=some 24) #[true,true,true,true,true,true,false,false] rfl rfl (one_of HT_.out (by kernel_rfl)) (by decide) (fun K hK => ?_)
    refine Kd.R_append_rows_step k71 (w0:=w0) w0.heap.size (by rfl) (.tmp 21) (.tmp 23) 40 71 (.agg #[(.int .i64 0),(.string ⟨#[]⟩),(.int .i64 0),(.int .i64 0),(.int .i64 0),(.int .i64 0),(.int .i64 0),(.int .i64 0),(.int .i64 0)]) 80 rfl Try.underlying40 info71 rfl (by decide) (by omega) v924 y923 y926 _ _ _ (fun k_ => (P0_ k_ ∨ w.heap.size ≤ k_) ∧ some k_ ≠ (.slice Ao11 l0.length co11 : Value).ownBlock ∧ some k_ ≠ (.slice Ao24 y926.length co24 : Value).ownBlock ∧ k_ ≠ gb918) (fun _ => False) rfl rfl ?aO ?aR (fun _ _ h => h) (fun _ h => h.elim) ?aF ?aB ?aS ?aL ?_
    (case aR => repeat (first|exact (Kd.R_reads' HO928.out).2.2|(with_reducible refine Kd.C_alloc ?_ _)|(with_reducible refine Kd.C_drewN ?_ _)|(with_reducible refine Kd.C_drew ?_)))
    (case aB => exact (by repeat (first|(with_reducible first|exact HB.out|apply bwA|apply bwN|apply bw1|refine below_set ?_ GE918.out)|exact HB.out)))
    (case aF => exact (fun k_ hk => ⟨(.inr (Nat.le_trans (by first|exact HK.out.1|exact (show Kept w _ (fun k_ => P0_ k_) from by repeat (first|(with_reducible first|exact HK.out|apply Kept.alloc|apply Kept.drewN|apply Kept.drew|refine Kept.setCell ?_ (.inr GW918.out) _)|exact HK.out)).1) hk)),Kd.fresh' (Kd.R_lt (by (with_reducible repeat (first|apply Kd.R_alloc|apply Kd.R_drewN|apply Kd.R_drew));exact HO0.out)) k_ hk,Kd.fresh' (Kd.R_lt (by (with_reducible repeat (first|apply Kd.R_alloc|apply Kd.R_drewN|apply Kd.R_drew));exact HO928.out)) k_ hk,Kd.freshB (g:=gb918) (o:=.cells #[.int .i64 a1_0,.string a1_1,.int .i64 a1_2,.int .i64 a1_3,.int .i64 a1_4,.int .i64 a1_5,.int .i64 1,.int .i64 (wrap64 (a2 + t919)),.int .i64 a1_8] 71 (0,0)) (by (with_reducible repeat (first|refine bDn ?_ _|refine bDr ?_|refine bAl ?_ _));exact BK918.out) k_ hk⟩))
    (case aO => exact (by (with_reducible repeat (first|apply Kd.R_alloc|apply Kd.R_drewN|apply Kd.R_drew));exact HO925.out))
    (case aS => exact (below_size (by repeat (first|(with_reducible first|exact HB.out|apply bwA|apply bwN|apply bw1|refine below_set ?_ GE918.out)|exact HB.out))))
    (case aL => have:=LMc9.out;omega)
    intro v930 w23 ho hb hg hat
    rw [← Ny929.out] at ho
    have n0_:=aMk (Kd.R_after (ok:=(fun k_ => (P0_ k_ ∨ w.heap.size ≤ k_) ∧ some k_ ≠ (.slice Ao24 y926.length co24 : Value).ownBlock ∧ k_ ≠ gb918)) (by (with_reducible repeat (first|apply Kd.R_alloc|apply Kd.R_drewN|apply Kd.R_drew));exact Kd.R_mono HO0.out (fun _ hk => ⟨⟨hk.1,⟨hk.2.2.1,hk.2.2.2⟩⟩,hk.2.1⟩)) hg hat)
    have n1_:=aMk (blk_grown (g:=gb918) (o:=.cells #[.int .i64 a1_0,.string a1_1,.int .i64 a1_2,.int .i64 a1_3,.int .i64 a1_4,.int .i64 a1_5,.int .i64 1,.int .i64 (wrap64 (a2 + t919)),.int .i64 a1_8] 71 (0,0)) (by (with_reducible repeat (first|refine bDn ?_ _|refine bDr ?_|refine bAl ?_ _));exact BK918.out) hg (Kd.R_away HO925.out (fun _ hk => hk.2.2.2)))
    have n2_:=aMk (Kd.R_after (ok:=(fun k_ => (P0_ k_ ∨ w.heap.size ≤ k_) ∧ some k_ ≠ (.slice Ao11 l0.length co11 : Value).ownBlock ∧ k_ ≠ gb918)) (by (with_reducible repeat (first|apply Kd.R_alloc|apply Kd.R_drewN|apply Kd.R_drew));exact Kd.R_mono HO928.out (fun _ hk => ⟨⟨hk.1,⟨hk.2.1,hk.2.2.2⟩⟩,hk.2.2.1⟩)) hg hat)
    have n3_:=aMk (hb)
    have n4_:=aMk (Kept.of_grown (S:=(fun k_ => P0_ k_)) hg (by repeat (first|(with_reducible first|exact HK.out|apply Kept.alloc|apply Kept.drewN|apply Kept.drew|refine Kept.setCell ?_ (.inr GW918.out) _)|exact HK.out)) (fun k_ e_ => (HO925.out.1 k_ e_).1))
    have n5_:=aMk (ho)
    clear HO0
    clear BK918
    clear HO928
    clear HB
    clear HK
    clear HO925
    have HO0:=n0_
    have BK918:=n1_
    have HO928:=n2_
    have HB:=n3_
    have HK:=n4_
    have HO931:=n5_
    clear n0_ n1_ n2_ n3_ n4_ n5_
    clear ho hb hg hat
    refine hK.out _ _ ⟨(bCe BK918.out 0).trans rfl,(bCe BK918.out 1).trans rfl,(bCe BK918.out 2).trans rfl,(bCe BK918.out 3).trans rfl,(bCe BK918.out 4).trans rfl,(bCe BK918.out 5).trans rfl,(bCe BK918.out 6).trans rfl,(bCe BK918.out 7).trans rfl,(bCe BK918.out 8).trans rfl⟩ (fun hHeld => ?_)
    clear hK K
    refine norm_ (a':=?_) ?_ ?_
    rotate_left
    ·show Act.put _ (some 24) _ = _
     simp only [Act.put,List.setIfInBounds_toArray,List.set_cons_zero,List.set_cons_succ,i64_w,i32_w]
     rfl
    refine pure_ (i:=6) (N:=some 6) (v:=?_) (a':=?_) #[true,true,true,true,true,true,true,false] rfl rfl (any_of HT_.out (by kernel_rfl)) (fun _ _ _ h => h) (Or.inl ⟨by rfl,?_⟩) ?_ ?_
    rotate_left
    ·intro w'
     go_simp
     with_reducible rfl
    rotate_left
    ·simp only [Act.put,List.setIfInBounds_toArray,List.set_cons_zero,List.set_cons_succ,i64_w,i32_w]
     rfl
    refine pure_ (i:=7) (N:=some 7) (v:=?_) (a':=?_) #[true,true,true,true,true,true,true,true] rfl rfl (any_of HT_.out (by kernel_rfl)) (fun _ _ _ h => h) (Or.inl ⟨by rfl,?_⟩) ?_ ?_
    rotate_left
    ·intro w'
     go_simp
     with_reducible rfl
    rotate_left
    ·simp only [Act.put,List.setIfInBounds_toArray,List.set_cons_zero,List.set_cons_succ,i64_w,i32_w]
     rfl
    refine done_ (done_of HT_.out (by kernel_rfl)) ?_
    try go_wp2
    go_ret2
    exact ⟨_,by first | rfl|(simp [errW_none,errW_some] <;> rfl)|(simp [*,errW_none,errW_some] <;> rfl),by (with_reducible repeat (first|apply Kd.R_alloc|apply Kd.R_drewN|apply Kd.R_drew));exact Kd.R_mono HO931.out (fun _ hk => hk.1),by repeat (first|(with_reducible first|exact HB.out|apply bwA|apply bwN|apply bw1|refine below_set ?_ GE918.out)|exact HB.out),by repeat (first|(with_reducible first|exact HK.out|apply Kept.alloc|apply Kept.drewN|apply Kept.drew|refine Kept.setCell ?_ (.inr GW918.out) _)|exact HK.out)⟩
   ·rw [if_neg c9] at H
    exact absurd H (by simp)
  ·rw [if_neg c8] at H
   exact absurd H (by simp)
end
section
/-! ### spec_FlowOpen: function 52 -/
def spec_FlowOpen.j0 : Nat → List (S71) → Int → Bool → Int → ByteArray → Int → Int → Int → Int → Int → Int → Int → Option ((List (S71)) × Int)
 | 0,_,_,_,_,_,_,_,_,_,_,_,_ => none
 | k + 1,x0,x2,x25,x933000,x933001,x933002,x933003,x933004,x933005,x933006,x933007,x933008 => if x25 = true then (some ((([] : List (S71))),1)) else ((spec_l01In.f x2 0 100000).bind fun t941 => (if t941 = true then ((spec_l09Find.f k x0 x933000 x933002 x933003 x933004 x933005).bind fun bt945 => (if bt945.1 ≥ 0 then ((some (([] : List (S71)) : List (S71))).bind fun y947 => (if y947.length + x0.length < 1759218604441 then (some ((y947 ++ x0),9)) else (none))) else ((spec_l09Open.f x0 x933000 x933001 x933002 x933003 x933004 x933005 x933006 x933007 x933008 x2).bind fun bt953 => ((some (([] : List (S71)) : List (S71))).bind fun y957 => (if y957.length + bt953.1.length < 1759218604441 then (some ((y957 ++ bt953.1),bt953.2)) else (none)))))) else (some ((([] : List (S71))),4))))
def spec_FlowOpen.f (k : Nat) (l0 : List (S71)) (a1_0 : Int) (a1_1 : ByteArray) (a1_2 : Int) (a1_3 : Int) (a1_4 : Int) (a1_5 : Int) (a1_6 : Int) (a1_7 : Int) (a1_8 : Int) (a2 : Int) : Option ((List (S71)) × Int):=if (l0.length : Int) > 4096 then (some ((([] : List (S71))),2)) else ((spec_FlowsOK.f k l0).bind fun t936 => (if t936 = true then ((spec_l09Flow.f a1_0 a1_1 a1_2 a1_3 a1_4 a1_5 1 0 a1_8).bind fun t937 => (spec_FlowOpen.j0 k l0 a2 (!t937) a1_0 a1_1 a1_2 a1_3 a1_4 a1_5 1 0 a1_8)) else (spec_FlowOpen.j0 k l0 a2 true a1_0 a1_1 a1_2 a1_3 a1_4 a1_5 1 0 a1_8)))
theorem spec_FlowOpen.mono_l : ∀ k,(∀ y0 y1 y2 y3 y4 y5 y6 y7 y8 y9 y10 y11,LeO (spec_FlowOpen.j0 k y0 y1 y2 y3 y4 y5 y6 y7 y8 y9 y10 y11) (spec_FlowOpen.j0 (k + 1) y0 y1 y2 y3 y4 y5 y6 y7 y8 y9 y10 y11))
 | 0 => fun _ _ _ _ _ _ _ _ _ _ _ _ r h => by simp [spec_FlowOpen.j0] at h
 | k + 1 => by
  have ih0:=spec_FlowOpen.mono_l k
  ·intro y0 y1 y2 y3 y4 y5 y6 y7 y8 y9 y10 y11
   unfold spec_FlowOpen.j0
   repeat' first
   | (with_reducible exact ih0 _ _ _ _ _ _ _ _ _ _ _ _)
   | (with_reducible exact spec_FlowsOK.mono ..)
   | (with_reducible exact spec_l09Find.mono ..)
   | (with_reducible exact LeO.refl _)
   | (with_reducible exact LeO.none _)
   | (with_reducible refine LeO.ite ?_ ?_)
   | (with_reducible refine LeO.bind ?_ (fun _ => ?_))
   | exact ih0 _ _ _ _ _ _ _ _ _ _ _ _
   | exact spec_FlowsOK.mono ..
   | exact spec_l09Find.mono ..
   | exact LeO.none _
   | refine LeO.ite ?_ ?_
   | refine LeO.bind ?_ (fun _ => ?_)
theorem spec_FlowOpen.mono : ∀ a0 a1 a2 a3 a4 a5 a6 a7 a8 a9 a10 k,LeO (spec_FlowOpen.f k a0 a1 a2 a3 a4 a5 a6 a7 a8 a9 a10) (spec_FlowOpen.f (k + 1) a0 a1 a2 a3 a4 a5 a6 a7 a8 a9 a10):=by
 intro a0 a1 a2 a3 a4 a5 a6 a7 a8 a9 a10 k
 have ih0:=spec_FlowOpen.mono_l k
 unfold spec_FlowOpen.f
 repeat' first
   | (with_reducible exact ih0 _ _ _ _ _ _ _ _ _ _ _ _)
   | (with_reducible exact spec_FlowsOK.mono ..)
   | (with_reducible exact spec_l09Find.mono ..)
   | (with_reducible exact LeO.refl _)
   | (with_reducible exact LeO.none _)
   | (with_reducible refine LeO.ite ?_ ?_)
   | (with_reducible refine LeO.bind ?_ (fun _ => ?_))
   | exact ih0 _ _ _ _ _ _ _ _ _ _ _ _
   | exact spec_FlowsOK.mono ..
   | exact spec_l09Find.mono ..
   | exact LeO.none _
   | refine LeO.ite ?_ ?_
   | refine LeO.bind ?_ (fun _ => ?_)
set_option maxHeartbeats 8000000 in
set_option maxRecDepth 100000 in
theorem spec_FlowOpen.calls (k : Nat) (P0_ : Nat → Prop) (u9000_ : Value) (l0 : List (S71)) (a1_0 : Int) (a1_1 : ByteArray) (a1_2 : Int) (a1_3 : Int) (a1_4 : Int) (a1_5 : Int) (a1_6 : Int) (a1_7 : Int) (a1_8 : Int) (a2 : Int) (r1 : List (S71)) (r2 : Int) (w0 w : World) (hB : Below w0.heap.size w0 w) (ho0 : Kd.R k71 71 w w0.heap.size P0_ u9000_ l0) (h : spec_FlowOpen.f k l0 a1_0 a1_1 a1_2 a1_3 a1_4 a1_5 a1_6 a1_7 a1_8 a2 = some (r1,r2)) :
  Calls Try.prog 52 #[u9000_,.agg #[.int .i64 a1_0,.string a1_1,.int .i64 a1_2,.int .i64 a1_3,.int .i64 a1_4,.int .i64 a1_5,.int .i64 a1_6,.int .i64 a1_7,.int .i64 a1_8],.int .i64 a2] w fun e w' => ∃ v0_ : Value,e = .returned (.tuple #[v0_,.int .i64 r2]) ∧ Kd.R k71 71 w' w0.heap.size (fun k_ => (P0_ k_ ∨ w.heap.size ≤ k_)) v0_ r1 ∧ Below w0.heap.size w0 w' ∧ Kept w w' (fun k_ => P0_ k_):=by
 have hu71:=Try.underlying71
 have HO0:=aMk (show Kd.R k71 71 w w0.heap.size (fun k_ => (P0_ k_ ∨ w.heap.size ≤ k_)) u9000_ l0 from Kd.R_mono ho0 (fun k_ hk => (.inl hk)))
 have HK:=aMk (Kept.refl w (fun k_ => P0_ k_))
 have HW0:=aMk hB.size
 have HB:=aMk hB
 clear hB
 have H : (if (l0.length : Int) > 4096 then (some ((([] : List (S71))),2)) else ((spec_FlowsOK.f k l0).bind fun t936 => (if t936 = true then ((spec_l09Flow.f a1_0 a1_1 a1_2 a1_3 a1_4 a1_5 1 0 a1_8).bind fun t937 => (spec_FlowOpen.j0 k l0 a2 (!t937) a1_0 a1_1 a1_2 a1_3 a1_4 a1_5 1 0 a1_8)) else (spec_FlowOpen.j0 k l0 a2 true a1_0 a1_1 a1_2 a1_3 a1_4 a1_5 1 0 a1_8)))) = some (r1,r2):=h
 clear h
 by_cases c4 : (l0.length : Int) > 4096
 ·rw [if_pos c4] at H
  have c4b0 : decide (4096 < (l0.length : Int)) = true:=decide_eq_true c4
  have c4b1 : decide (4096 < l0.length) = true:=decide_eq_true (by omega)
  clear c4
  obtain ⟨y933,hy933⟩ : ∃ y_ : List (S71),y_ = (([] : List (S71))):=⟨_,rfl⟩
  replace H : (some (y933,2)) = some (r1,r2):=by first|(rw [hy933];with_reducible exact H)|(have H2_:=(Option.bind_some _ _).symm.trans H;rw [hy933];with_reducible exact H2_)|(have H2_:=(Option.bind_some _ _).symm.trans H;with_reducible exact H2_) | with_reducible exact H|(rw [hy933];exact H)|exact H
  have Ny933:=aMk hy933
  clear hy933
  simp only [Option.some.injEq,Prod.mk.injEq] at H
  obtain ⟨rfl,rfl⟩:=H
  go_enter Try.func52,Try.ntmps52
  go_wp2_with (first|((with_reducible refine gate_dst (N:=4) rfl ?_);refine box_event ?hg (N:=4) ?hd (cs:=#[.int .i64 a1_0,.string a1_1,.int .i64 a1_2,.int .i64 a1_3,.int .i64 a1_4,.int .i64 a1_5,.int .i64 a1_6,.int .i64 a1_7,.int .i64 a1_8]) (t:=71) ?hr ?_;(case hd => rfl);(case hg => rfl);(case hr => first|(go_simp;done)|(go_simp;rfl));intro gb932 hg w5 hbox hb;have n0_:=aMk (Kd.R_below (Kd.R_elderB (by (with_reducible repeat (first|apply Kd.R_alloc|apply Kd.R_drewN|apply Kd.R_drew));exact HO0.out) gb932 (Nat.le_of_eq hg.symm)) hb);have n1_:=aMk (Kept.below (S:=(fun k_ => P0_ k_)) (by repeat (first|(with_reducible first|exact HK.out|apply Kept.alloc|apply Kept.drewN|apply Kept.drew)|exact HK.out)) hb);have n2_:=aMk (below_step (by repeat first|exact HB.out|apply bwA|apply bwN|apply bw1) hb);have n3_:=aMk (hbox);have n4_:=aMk ((by rw [hg];exact (by first|exact HK.out.1|exact (show Kept w _ (fun k_ => P0_ k_) from by repeat (first|(with_reducible first|exact HK.out|apply Kept.alloc|apply Kept.drewN|apply Kept.drew)|exact HK.out)).1) : w.heap.size ≤ gb932));have n5_:=aMk ((by rw [hg];exact (below_size (by repeat first|exact HB.out|apply bwA|apply bwN|apply bw1)) : w0.heap.size ≤ gb932));clear HO0;clear HK;clear HB;have HO0:=n0_;have HK:=n1_;have HB:=n2_;have BK932:=n3_;have GW932:=n4_;have GE932:=n5_;clear n0_ n1_ n2_ n3_ n4_ n5_;clear hb hbox hg;obtain ⟨Ao6,co6,eo6⟩:=Kd.R_slice HO0.out;subst eo6)|((with_reducible refine gate_dst (N:=15) rfl ?_);refine Kd.R_lit k71 _ 71 ?hg (N:=15) ?hd (xs:=([] : List (S71))) (inner:=[]) (ok:=fun _ => True) (okp:=fun _ => True) ?hr ?hp (fun _ hk => hk) trivial (Below.refl _ _) (Nat.le_refl _) (by simp) ?_;(case hd => rfl);(case hg => rfl);(case hr => first|(go_simp;done)|(go_simp;rfl));(case hp => exact (Reps.none _ _));intro v934 w7 ho8 hb hg_ hnew_;clear hg_ hnew_;(first|rw [← Ny933.out] at ho8|(simp only [Int.reduceToNat] at ho8;rw [← Ny933.out] at ho8));have n0_:=aMk (Kd.R_elder' (by (with_reducible repeat (first|apply Kd.R_alloc|apply Kd.R_drewN|apply Kd.R_drew));exact HO0.out) (Kd.R_base ho8) hb);have n1_:=aMk (Kd.R_lower (Kd.R_newB (Kd.R_new' (Kd.R_newM (M:=fun k_ => (P0_ k_ ∨ w.heap.size ≤ k_)) ho8 (by first|exact HK.out.1|exact (show Kept w _ (fun k_ => P0_ k_) from by repeat (first|(with_reducible first|exact HK.out|apply Kept.alloc|apply Kept.drewN|apply Kept.drew|refine Kept.setCell ?_ (.inr GW932.out) _)|exact HK.out)).1) (fun k_ h_ => .inr h_)) (Kd.R_lt (by (with_reducible repeat (first|apply Kd.R_alloc|apply Kd.R_drewN|apply Kd.R_drew));exact HO0.out))) (g:=gb932) (o:=.cells #[.int .i64 a1_0,.string a1_1,.int .i64 a1_2,.int .i64 a1_3,.int .i64 a1_4,.int .i64 a1_5,.int .i64 a1_6,.int .i64 a1_7,.int .i64 a1_8] 71 (0,0)) (by (with_reducible repeat (first|refine bDn ?_ _|refine bDr ?_|refine bAl ?_ _));exact BK932.out)) (below_size (by repeat (first|(with_reducible first|exact HB.out|apply bwA|apply bwN|apply bw1|refine below_set ?_ GE932.out)|exact HB.out))));have n2_:=aMk (blk_below (g:=gb932) (o:=.cells #[.int .i64 a1_0,.string a1_1,.int .i64 a1_2,.int .i64 a1_3,.int .i64 a1_4,.int .i64 a1_5,.int .i64 a1_6,.int .i64 a1_7,.int .i64 a1_8] 71 (0,0)) (by (with_reducible repeat (first|refine bDn ?_ _|refine bDr ?_|refine bAl ?_ _));exact BK932.out) hb);have n3_:=aMk (Kept.below (S:=(fun k_ => P0_ k_)) (by repeat (first|(with_reducible first|exact HK.out|apply Kept.alloc|apply Kept.drewN|apply Kept.drew|refine Kept.setCell ?_ (.inr GW932.out) _)|exact HK.out)) hb);have n4_:=aMk (below_step (by repeat (first|(with_reducible first|exact HB.out|apply bwA|apply bwN|apply bw1|refine below_set ?_ GE932.out)|exact HB.out)) hb);clear HO0;clear BK932;clear HK;clear HB;have HO0:=n0_;have HO935:=n1_;have BK932:=n2_;have HK:=n3_;have HB:=n4_;clear n0_ n1_ n2_ n3_ n4_;clear hb ho8))
  go_ret2
  exact ⟨_,by first | rfl|(simp [errW_none,errW_some] <;> rfl)|(simp [*,errW_none,errW_some] <;> rfl),by (with_reducible repeat (first|apply Kd.R_alloc|apply Kd.R_drewN|apply Kd.R_drew));exact Kd.R_mono HO935.out (fun _ hk => hk.1.1.1),by repeat (first|(with_reducible first|exact HB.out|apply bwA|apply bwN|apply bw1|refine below_set ?_ GE932.out)|exact HB.out),by repeat (first|(with_reducible first|exact HK.out|apply Kept.alloc|apply Kept.drewN|apply Kept.drew|refine Kept.setCell ?_ (.inr GW932.out) _)|exact HK.out)⟩
 ·rw [if_neg c4] at H
  have c4b0 : decide (4096 < (l0.length : Int)) = false:=decide_eq_false c4
  have c4b1 : decide (4096 < l0.length) = false:=decide_eq_false (by omega)
  clear c4
  have HC9:=aMk H
  clear H
  go_enter Try.func52,Try.ntmps52
  go_upto_region 5 with (first|((with_reducible refine gate_dst (N:=4) rfl ?_);refine box_event ?hg (N:=4) ?hd (cs:=#[.int .i64 a1_0,.string a1_1,.int .i64 a1_2,.int .i64 a1_3,.int .i64 a1_4,.int .i64 a1_5,.int .i64 a1_6,.int .i64 a1_7,.int .i64 a1_8]) (t:=71) ?hr ?_;(case hd => rfl);(case hg => rfl);(case hr => first|(go_simp;done)|(go_simp;rfl));intro gb932 hg w10 hbox hb;have n0_:=aMk (Kd.R_below (Kd.R_elderB (by (with_reducible repeat (first|apply Kd.R_alloc|apply Kd.R_drewN|apply Kd.R_drew));exact HO0.out) gb932 (Nat.le_of_eq hg.symm)) hb);have n1_:=aMk (Kept.below (S:=(fun k_ => P0_ k_)) (by repeat (first|(with_reducible first|exact HK.out|apply Kept.alloc|apply Kept.drewN|apply Kept.drew)|exact HK.out)) hb);have n2_:=aMk (below_step (by repeat first|exact HB.out|apply bwA|apply bwN|apply bw1) hb);have n3_:=aMk (hbox);have n4_:=aMk ((by rw [hg];exact (by first|exact HK.out.1|exact (show Kept w _ (fun k_ => P0_ k_) from by repeat (first|(with_reducible first|exact HK.out|apply Kept.alloc|apply Kept.drewN|apply Kept.drew)|exact HK.out)).1) : w.heap.size ≤ gb932));have n5_:=aMk ((by rw [hg];exact (below_size (by repeat first|exact HB.out|apply bwA|apply bwN|apply bw1)) : w0.heap.size ≤ gb932));clear HO0;clear HK;clear HB;have HO0:=n0_;have HK:=n1_;have HB:=n2_;have BK932:=n3_;have GW932:=n4_;have GE932:=n5_;clear n0_ n1_ n2_ n3_ n4_ n5_;clear hb hbox hg;obtain ⟨Ao11,co11,eo11⟩:=Kd.R_slice HO0.out;subst eo11;have hcz12_0 : w10.cell? ⟨gb932,0,none⟩ = some (.int .i64 a1_0):=(bCe BK932.out 0).trans rfl;have hcz12_1 : w10.cell? ⟨gb932,1,none⟩ = some (.string a1_1):=(bCe BK932.out 1).trans rfl;have hcz12_2 : w10.cell? ⟨gb932,2,none⟩ = some (.int .i64 a1_2):=(bCe BK932.out 2).trans rfl;have hcz12_3 : w10.cell? ⟨gb932,3,none⟩ = some (.int .i64 a1_3):=(bCe BK932.out 3).trans rfl;have hcz12_4 : w10.cell? ⟨gb932,4,none⟩ = some (.int .i64 a1_4):=(bCe BK932.out 4).trans rfl;have hcz12_5 : w10.cell? ⟨gb932,5,none⟩ = some (.int .i64 a1_5):=(bCe BK932.out 5).trans rfl;have hcz12_6 : w10.cell? ⟨gb932,6,none⟩ = some (.int .i64 a1_6):=(bCe BK932.out 6).trans rfl;have hcz12_7 : w10.cell? ⟨gb932,7,none⟩ = some (.int .i64 a1_7):=(bCe BK932.out 7).trans rfl;have hcz12_8 : w10.cell? ⟨gb932,8,none⟩ = some (.int .i64 a1_8):=(bCe BK932.out 8).trans rfl;have hfz12_0:=bFr BK932.out 0;have hfz12_1:=bFr BK932.out 1;have hfz12_2:=bFr BK932.out 2;have hfz12_3:=bFr BK932.out 3;have hfz12_4:=bFr BK932.out 4;have hfz12_5:=bFr BK932.out 5;have hfz12_6:=bFr BK932.out 6;have hfz12_7:=bFr BK932.out 7;have hfz12_8:=bFr BK932.out 8))
  (try simp only [Act.put,List.setIfInBounds_toArray,List.set_cons_zero,List.set_cons_succ])
  go_cut [25] (fun v25 wc => ∃ (kq : Nat) (x25_8 : Bool),v25 = .bool x25_8 ∧ Aside0 (spec_FlowOpen.j0 kq l0 a2 x25_8 a1_0 a1_1 a1_2 a1_3 a1_4 a1_5 1 0 a1_8 = some (r1,r2)) ∧ Aside0 (kq ≤ k) ∧ Aside0 (Kd.R k71 71 wc w0.heap.size (fun k_ => (P0_ k_ ∨ w.heap.size ≤ k_) ∧ k_ ≠ gb932) (.slice Ao11 l0.length co11) l0) ∧ Aside0 (wc.heap[gb932]? = some (.cells #[.int .i64 a1_0,.string a1_1,.int .i64 a1_2,.int .i64 a1_3,.int .i64 a1_4,.int .i64 a1_5,.int .i64 1,.int .i64 0,.int .i64 a1_8] 71 (0,0))) ∧ Aside0 (Kept w wc (fun k_ => P0_ k_)) ∧ Aside0 (Below w0.heap.size w0 wc))
  case first =>
   have H:=HC9.out
   clear HC9
   replace H:=Option.bind_eq_some_iff.mp H
   obtain ⟨t936,A130,H⟩:=H
   replace H : (if t936 = true then ((spec_l09Flow.f a1_0 a1_1 a1_2 a1_3 a1_4 a1_5 1 0 a1_8).bind fun t937 => (spec_FlowOpen.j0 k l0 a2 (!t937) a1_0 a1_1 a1_2 a1_3 a1_4 a1_5 1 0 a1_8)) else (spec_FlowOpen.j0 k l0 a2 true a1_0 a1_1 a1_2 a1_3 a1_4 a1_5 1 0 a1_8)) = some (r1,r2):=H
   have A13:=aMk A130
   clear A130
   by_cases c14 : t936 = true
   ·subst c14
    have H1 : ((spec_l09Flow.f a1_0 a1_1 a1_2 a1_3 a1_4 a1_5 1 0 a1_8).bind fun t937 => (spec_FlowOpen.j0 k l0 a2 (!t937) a1_0 a1_1 a1_2 a1_3 a1_4 a1_5 1 0 a1_8)) = some (r1,r2):=by rw [if_pos rfl] at H;exact H
    clear H
    have H:=H1
    clear H1
    replace H:=Option.bind_eq_some_iff.mp H
    obtain ⟨t937,A150,H⟩:=H
    replace H : (spec_FlowOpen.j0 k l0 a2 (!t937) a1_0 a1_1 a1_2 a1_3 a1_4 a1_5 1 0 a1_8) = some (r1,r2):=H
    have A15:=aMk A150
    clear A150
    have H':=aMk H
    clear H
    go_wp2_with (first|((with_reducible refine gate_callee (f:=27) rfl ?_);refine goesL_ (some 19) rfl rfl Try.func27 (by kernel_rfl) rfl #[.slice Ao11 l0.length co11] rfl (by (try simp only [List.map_toArray,List.map_cons,List.map_nil]);first | done | rfl|(simp only [List.length_drop,List.length_take];rfl)) ?_;(with_reducible refine (spec_FlowsOK.calls k _ _ l0 true _ ?side1 ?side2 A13.out).mono ?_);(case side1 => refine (Kd.R_reads' (e:=71) (base:=w0.heap.size) (ok:=fun k_ => ((P0_ k_ ∨ w.heap.size ≤ k_) ∧ k_ ≠ gb932)) (n:=l0.length) (c:=co11) ?_).2.2;exact (by (with_reducible repeat (first|apply Kd.R_alloc|apply Kd.R_drewN|apply Kd.R_drew));exact (Kd.R_mono (Kd.R_far (p:=⟨gb932,7,none⟩) (Kd.R_far (p:=⟨gb932,6,none⟩) (Kd.R_mono HO0.out (fun k_ hk => (⟨hk,hk.2⟩ : _ ∧ k_ ≠ gb932))) (fun _ hk => hk.2) (.int .i64 1)) (fun _ hk => hk.2) (.int .i64 0)) (fun _ h_ => h_.1))));(case side2 => exact (Kd.R_reads' HO0.out).2.1);rintro e w16 ⟨rfl,hb⟩;refine ⟨_,rfl,?_⟩;have n0_:=aMk (Kd.R_below (by (with_reducible repeat (first|apply Kd.R_alloc|apply Kd.R_drewN|apply Kd.R_drew));exact (Kd.R_mono (Kd.R_far (p:=⟨gb932,7,none⟩) (Kd.R_far (p:=⟨gb932,6,none⟩) (Kd.R_mono HO0.out (fun k_ hk => (⟨hk,hk.2⟩ : _ ∧ k_ ≠ gb932))) (fun _ hk => hk.2) (.int .i64 1)) (fun _ hk => hk.2) (.int .i64 0)) (fun _ h_ => h_.1))) hb);have n1_:=aMk (blk_below (g:=gb932) (o:=.cells #[.int .i64 a1_0,.string a1_1,.int .i64 a1_2,.int .i64 a1_3,.int .i64 a1_4,.int .i64 a1_5,.int .i64 1,.int .i64 0,.int .i64 a1_8] 71 (0,0)) (by (with_reducible repeat (first|refine bDn ?_ _|refine bDr ?_|refine bAl ?_ _));refine blk_put (cs:=#[.int .i64 a1_0,.string a1_1,.int .i64 a1_2,.int .i64 a1_3,.int .i64 a1_4,.int .i64 a1_5,.int .i64 1,.int .i64 a1_7,.int .i64 a1_8]) ?_ 7 _ rfl;(with_reducible repeat (first|refine bDn ?_ _|refine bDr ?_|refine bAl ?_ _));refine blk_put (cs:=#[.int .i64 a1_0,.string a1_1,.int .i64 a1_2,.int .i64 a1_3,.int .i64 a1_4,.int .i64 a1_5,.int .i64 a1_6,.int .i64 a1_7,.int .i64 a1_8]) ?_ 6 _ rfl;(with_reducible repeat (first|refine bDn ?_ _|refine bDr ?_|refine bAl ?_ _));exact BK932.out) hb);have n2_:=aMk (Kept.below (S:=(fun k_ => P0_ k_)) (by repeat (first|(with_reducible first|exact HK.out|apply Kept.alloc|apply Kept.drewN|apply Kept.drew|refine Kept.setCell ?_ (.inr GW932.out) _)|exact HK.out)) hb);have n3_:=aMk (below_step (by repeat (first|(with_reducible first|exact HB.out|apply bwA|apply bwN|apply bw1|refine below_set ?_ GE932.out)|exact HB.out)) hb);clear HO0;clear BK932;clear HK;clear HB;have HO0:=n0_;have BK932:=n1_;have HK:=n2_;have HB:=n3_;clear n0_ n1_ n2_ n3_;(try clear hb);(try clear hb2);(try clear hk);(try clear hi);have hcz17_0 : w16.cell? ⟨gb932,0,none⟩ = some (.int .i64 a1_0):=(bCe BK932.out 0).trans rfl;have hcz17_1 : w16.cell? ⟨gb932,1,none⟩ = some (.string a1_1):=(bCe BK932.out 1).trans rfl;have hcz17_2 : w16.cell? ⟨gb932,2,none⟩ = some (.int .i64 a1_2):=(bCe BK932.out 2).trans rfl;have hcz17_3 : w16.cell? ⟨gb932,3,none⟩ = some (.int .i64 a1_3):=(bCe BK932.out 3).trans rfl;have hcz17_4 : w16.cell? ⟨gb932,4,none⟩ = some (.int .i64 a1_4):=(bCe BK932.out 4).trans rfl;have hcz17_5 : w16.cell? ⟨gb932,5,none⟩ = some (.int .i64 a1_5):=(bCe BK932.out 5).trans rfl;have hcz17_6 : w16.cell? ⟨gb932,6,none⟩ = some (.int .i64 1):=(bCe BK932.out 6).trans rfl;have hcz17_7 : w16.cell? ⟨gb932,7,none⟩ = some (.int .i64 0):=(bCe BK932.out 7).trans rfl;have hcz17_8 : w16.cell? ⟨gb932,8,none⟩ = some (.int .i64 a1_8):=(bCe BK932.out 8).trans rfl;have hfz17_0:=bFr BK932.out 0;have hfz17_1:=bFr BK932.out 1;have hfz17_2:=bFr BK932.out 2;have hfz17_3:=bFr BK932.out 3;have hfz17_4:=bFr BK932.out 4;have hfz17_5:=bFr BK932.out 5;have hfz17_6:=bFr BK932.out 6;have hfz17_7:=bFr BK932.out 7;have hfz17_8:=bFr BK932.out 8)|(go_at_call 75;(with_reducible refine (spec_l09Flow.calls a1_0 a1_1 a1_2 a1_3 a1_4 a1_5 1 0 a1_8 t937 _ A15.out).mono ?_);rintro e w18 ⟨rfl,hb⟩;have n0_:=aMk (Kd.R_below (by (with_reducible repeat (first|apply Kd.R_alloc|apply Kd.R_drewN|apply Kd.R_drew));exact HO0.out) hb);have n1_:=aMk (blk_below (g:=gb932) (o:=.cells #[.int .i64 a1_0,.string a1_1,.int .i64 a1_2,.int .i64 a1_3,.int .i64 a1_4,.int .i64 a1_5,.int .i64 1,.int .i64 0,.int .i64 a1_8] 71 (0,0)) (by (with_reducible repeat (first|refine bDn ?_ _|refine bDr ?_|refine bAl ?_ _));exact BK932.out) hb);have n2_:=aMk (Kept.below (S:=(fun k_ => P0_ k_)) (by repeat (first|(with_reducible first|exact HK.out|apply Kept.alloc|apply Kept.drewN|apply Kept.drew|refine Kept.setCell ?_ (.inr GW932.out) _)|exact HK.out)) hb);have n3_:=aMk (below_step (by repeat (first|(with_reducible first|exact HB.out|apply bwA|apply bwN|apply bw1|refine below_set ?_ GE932.out)|exact HB.out)) hb);clear HO0;clear BK932;clear HK;clear HB;have HO0:=n0_;have BK932:=n1_;have HK:=n2_;have HB:=n3_;clear n0_ n1_ n2_ n3_;(try clear hb);(try clear hb2);(try clear hk);(try clear hi)))
    go_meet
    case rel => exact ⟨_,(!t937),(by first | rfl|(simp;done)|(simp [*];done)|(simp [ne_nil_b];done)|(simp [ne_nil_b, *];done)),H',⟨by first | omega|exact Nat.le_refl _⟩,⟨by (with_reducible repeat (first|apply Kd.R_alloc|apply Kd.R_drewN|apply Kd.R_drew));exact HO0.out⟩,⟨by (with_reducible repeat (first|refine bDn ?_ _|refine bDr ?_|refine bAl ?_ _));exact BK932.out⟩,⟨by repeat (first|(with_reducible first|exact HK.out|apply Kept.alloc|apply Kept.drewN|apply Kept.drew|refine Kept.setCell ?_ (.inr GW932.out) _)|exact HK.out)⟩,⟨by repeat (first|(with_reducible first|exact HB.out|apply bwA|apply bwN|apply bw1|refine below_set ?_ GE932.out)|exact HB.out)⟩⟩
   ·replace c14:=Bool.eq_false_iff.mpr c14
    subst c14
    have H1 : (spec_FlowOpen.j0 k l0 a2 true a1_0 a1_1 a1_2 a1_3 a1_4 a1_5 1 0 a1_8) = some (r1,r2):=by rw [if_neg (show ¬ (false = true) by decide)] at H;exact H
    clear H
    have H:=H1
    clear H1
    have H':=aMk H
    clear H
    go_wp2_with (first|((with_reducible refine gate_callee (f:=27) rfl ?_);refine goesL_ (some 19) rfl rfl Try.func27 (by kernel_rfl) rfl #[.slice Ao11 l0.length co11] rfl (by (try simp only [List.map_toArray,List.map_cons,List.map_nil]);first | done | rfl|(simp only [List.length_drop,List.length_take];rfl)) ?_;(with_reducible refine (spec_FlowsOK.calls k _ _ l0 false _ ?side1 ?side2 A13.out).mono ?_);(case side1 => refine (Kd.R_reads' (e:=71) (base:=w0.heap.size) (ok:=fun k_ => ((P0_ k_ ∨ w.heap.size ≤ k_) ∧ k_ ≠ gb932)) (n:=l0.length) (c:=co11) ?_).2.2;exact (by (with_reducible repeat (first|apply Kd.R_alloc|apply Kd.R_drewN|apply Kd.R_drew));exact (Kd.R_mono (Kd.R_far (p:=⟨gb932,7,none⟩) (Kd.R_far (p:=⟨gb932,6,none⟩) (Kd.R_mono HO0.out (fun k_ hk => (⟨hk,hk.2⟩ : _ ∧ k_ ≠ gb932))) (fun _ hk => hk.2) (.int .i64 1)) (fun _ hk => hk.2) (.int .i64 0)) (fun _ h_ => h_.1))));(case side2 => exact (Kd.R_reads' HO0.out).2.1);rintro e w19 ⟨rfl,hb⟩;refine ⟨_,rfl,?_⟩;have n0_:=aMk (Kd.R_below (by (with_reducible repeat (first|apply Kd.R_alloc|apply Kd.R_drewN|apply Kd.R_drew));exact (Kd.R_mono (Kd.R_far (p:=⟨gb932,7,none⟩) (Kd.R_far (p:=⟨gb932,6,none⟩) (Kd.R_mono HO0.out (fun k_ hk => (⟨hk,hk.2⟩ : _ ∧ k_ ≠ gb932))) (fun _ hk => hk.2) (.int .i64 1)) (fun _ hk => hk.2) (.int .i64 0)) (fun _ h_ => h_.1))) hb);have n1_:=aMk (blk_below (g:=gb932) (o:=.cells #[.int .i64 a1_0,.string a1_1,.int .i64 a1_2,.int .i64 a1_3,.int .i64 a1_4,.int .i64 a1_5,.int .i64 1,.int .i64 0,.int .i64 a1_8] 71 (0,0)) (by (with_reducible repeat (first|refine bDn ?_ _|refine bDr ?_|refine bAl ?_ _));refine blk_put (cs:=#[.int .i64 a1_0,.string a1_1,.int .i64 a1_2,.int .i64 a1_3,.int .i64 a1_4,.int .i64 a1_5,.int .i64 1,.int .i64 a1_7,.int .i64 a1_8]) ?_ 7 _ rfl;(with_reducible repeat (first|refine bDn ?_ _|refine bDr ?_|refine bAl ?_ _));refine blk_put (cs:=#[.int .i64 a1_0,.string a1_1,.int .i64 a1_2,.int .i64 a1_3,.int .i64 a1_4,.int .i64 a1_5,.int .i64 a1_6,.int .i64 a1_7,.int .i64 a1_8]) ?_ 6 _ rfl;(with_reducible repeat (first|refine bDn ?_ _|refine bDr ?_|refine bAl ?_ _));exact BK932.out) hb);have n2_:=aMk (Kept.below (S:=(fun k_ => P0_ k_)) (by repeat (first|(with_reducible first|exact HK.out|apply Kept.alloc|apply Kept.drewN|apply Kept.drew|refine Kept.setCell ?_ (.inr GW932.out) _)|exact HK.out)) hb);have n3_:=aMk (below_step (by repeat (first|(with_reducible first|exact HB.out|apply bwA|apply bwN|apply bw1|refine below_set ?_ GE932.out)|exact HB.out)) hb);clear HO0;clear BK932;clear HK;clear HB;have HO0:=n0_;have BK932:=n1_;have HK:=n2_;have HB:=n3_;clear n0_ n1_ n2_ n3_;(try clear hb);(try clear hb2);(try clear hk);(try clear hi)))
    go_meet
    case rel => exact ⟨_,(true),(by first | rfl|(simp;done)|(simp [*];done)|(simp [ne_nil_b];done)|(simp [ne_nil_b, *];done)),H',⟨by first | omega|exact Nat.le_refl _⟩,⟨by (with_reducible repeat (first|apply Kd.R_alloc|apply Kd.R_drewN|apply Kd.R_drew));exact HO0.out⟩,⟨by (with_reducible repeat (first|refine bDn ?_ _|refine bDr ?_|refine bAl ?_ _));exact BK932.out⟩,⟨by repeat (first|(with_reducible first|exact HK.out|apply Kept.alloc|apply Kept.drewN|apply Kept.drew|refine Kept.setCell ?_ (.inr GW932.out) _)|exact HK.out)⟩,⟨by repeat (first|(with_reducible first|exact HB.out|apply bwA|apply bwN|apply bw1|refine below_set ?_ GE932.out)|exact HB.out)⟩⟩
  case rest =>
   clear HC9
   try clear c1
   try clear c2
   try clear p2
   try clear c4
   try clear c4b0
   try clear c4b1
   try clear c5
   try clear c14
   try clear hcz12_0
   try clear hcz12_1
   try clear hcz12_2
   try clear hcz12_3
   try clear hcz12_4
   try clear hcz12_5
   try clear hcz12_6
   try clear hcz12_7
   try clear hcz12_8
   try clear hcz17_0
   try clear hcz17_1
   try clear hcz17_2
   try clear hcz17_3
   try clear hcz17_4
   try clear hcz17_5
   try clear hcz17_6
   try clear hcz17_7
   try clear hcz17_8
   try clear hfz12_0
   try clear hfz12_1
   try clear hfz12_2
   try clear hfz12_3
   try clear hfz12_4
   try clear hfz12_5
   try clear hfz12_6
   try clear hfz12_7
   try clear hfz12_8
   try clear hfz17_0
   try clear hfz17_1
   try clear hfz17_2
   try clear hfz17_3
   try clear hfz17_4
   try clear hfz17_5
   try clear hfz17_6
   try clear hfz17_7
   try clear hfz17_8
   obtain ⟨kq,x25_8,rfl,HA,HJ8,HO_0,BK932,HK,HB⟩:=hcut
   cases kq with
   | zero => exact absurd HA.out (by simp [spec_FlowOpen.j0])
   | succ kj8 =>
    have H:=HA.out
    clear HA
    simp only [spec_FlowOpen.j0] at H
    by_cases c20 : x25_8 = true
    ·subst c20
     have H1 : (some ((([] : List (S71))),1)) = some (r1,r2):=by rw [if_pos rfl] at H;exact H
     clear H
     have H:=H1
     clear H1
     obtain ⟨y938,hy938⟩ : ∃ y_ : List (S71),y_ = (([] : List (S71))):=⟨_,rfl⟩
     replace H : (some (y938,1)) = some (r1,r2):=by first|(rw [hy938];with_reducible exact H)|(have H2_:=(Option.bind_some _ _).symm.trans H;rw [hy938];with_reducible exact H2_)|(have H2_:=(Option.bind_some _ _).symm.trans H;with_reducible exact H2_) | with_reducible exact H|(rw [hy938];exact H)|exact H
     have Ny938:=aMk hy938
     clear hy938
     simp only [Option.some.injEq,Prod.mk.injEq] at H
     obtain ⟨rfl,rfl⟩:=H
     go_wp2_with (first|((with_reducible refine gate_dst (N:=26) rfl ?_);refine Kd.R_lit k71 _ 71 ?hg (N:=26) ?hd (xs:=([] : List (S71))) (inner:=[]) (ok:=fun _ => True) (okp:=fun _ => True) ?hr ?hp (fun _ hk => hk) trivial (Below.refl _ _) (Nat.le_refl _) (by simp) ?_;(case hd => rfl);(case hg => rfl);(case hr => first|(go_simp;done)|(go_simp;rfl));(case hp => exact (Reps.none _ _));intro v939 w21 ho22 hb hg_ hnew_;clear hg_ hnew_;(first|rw [← Ny938.out] at ho22|(simp only [Int.reduceToNat] at ho22;rw [← Ny938.out] at ho22));have n0_:=aMk (Kd.R_elder' (by (with_reducible repeat (first|apply Kd.R_alloc|apply Kd.R_drewN|apply Kd.R_drew));exact HO_0.out) (Kd.R_base ho22) hb);have n1_:=aMk (Kd.R_lower (Kd.R_newB (Kd.R_new' (Kd.R_newM (M:=fun k_ => (P0_ k_ ∨ w.heap.size ≤ k_)) ho22 (by first|exact HK.out.1|exact (show Kept w _ (fun k_ => P0_ k_) from by repeat (first|(with_reducible first|exact HK.out|apply Kept.alloc|apply Kept.drewN|apply Kept.drew|refine Kept.setCell ?_ (.inr GW932.out) _)|exact HK.out)).1) (fun k_ h_ => .inr h_)) (Kd.R_lt (by (with_reducible repeat (first|apply Kd.R_alloc|apply Kd.R_drewN|apply Kd.R_drew));exact HO_0.out))) (g:=gb932) (o:=.cells #[.int .i64 a1_0,.string a1_1,.int .i64 a1_2,.int .i64 a1_3,.int .i64 a1_4,.int .i64 a1_5,.int .i64 1,.int .i64 0,.int .i64 a1_8] 71 (0,0)) (by (with_reducible repeat (first|refine bDn ?_ _|refine bDr ?_|refine bAl ?_ _));exact BK932.out)) (below_size (by repeat (first|(with_reducible first|exact HB.out|apply bwA|apply bwN|apply bw1|refine below_set ?_ GE932.out)|exact HB.out))));have n2_:=aMk (blk_below (g:=gb932) (o:=.cells #[.int .i64 a1_0,.string a1_1,.int .i64 a1_2,.int .i64 a1_3,.int .i64 a1_4,.int .i64 a1_5,.int .i64 1,.int .i64 0,.int .i64 a1_8] 71 (0,0)) (by (with_reducible repeat (first|refine bDn ?_ _|refine bDr ?_|refine bAl ?_ _));exact BK932.out) hb);have n3_:=aMk (Kept.below (S:=(fun k_ => P0_ k_)) (by repeat (first|(with_reducible first|exact HK.out|apply Kept.alloc|apply Kept.drewN|apply Kept.drew|refine Kept.setCell ?_ (.inr GW932.out) _)|exact HK.out)) hb);have n4_:=aMk (below_step (by repeat (first|(with_reducible first|exact HB.out|apply bwA|apply bwN|apply bw1|refine below_set ?_ GE932.out)|exact HB.out)) hb);clear HO_0;clear BK932;clear HK;clear HB;have HO_0:=n0_;have HO940:=n1_;have BK932:=n2_;have HK:=n3_;have HB:=n4_;clear n0_ n1_ n2_ n3_ n4_;clear hb ho22))
     go_ret2
     exact ⟨_,by first | rfl|(simp [errW_none,errW_some] <;> rfl)|(simp [*,errW_none,errW_some] <;> rfl),by (with_reducible repeat (first|apply Kd.R_alloc|apply Kd.R_drewN|apply Kd.R_drew));exact Kd.R_mono HO940.out (fun _ hk => hk.1.1.1),by repeat (first|(with_reducible first|exact HB.out|apply bwA|apply bwN|apply bw1|refine below_set ?_ GE932.out)|exact HB.out),by repeat (first|(with_reducible first|exact HK.out|apply Kept.alloc|apply Kept.drewN|apply Kept.drew|refine Kept.setCell ?_ (.inr GW932.out) _)|exact HK.out)⟩
    ·replace c20:=Bool.eq_false_iff.mpr c20
     subst c20
     have H1 : ((spec_l01In.f a2 0 100000).bind fun t941 => (if t941 = true then ((spec_l09Find.f kj8 l0 a1_0 a1_2 a1_3 a1_4 a1_5).bind fun bt945 => (if bt945.1 ≥ 0 then ((some (([] : List (S71)) : List (S71))).bind fun y947 => (if y947.length + l0.length < 1759218604441 then (some ((y947 ++ l0),9)) else (none))) else ((spec_l09Open.f l0 a1_0 a1_1 a1_2 a1_3 a1_4 a1_5 1 0 a1_8 a2).bind fun bt953 => ((some (([] : List (S71)) : List (S71))).bind fun y957 => (if y957.length + bt953.1.length < 1759218604441 then (some ((y957 ++ bt953.1),bt953.2)) else (none)))))) else (some ((([] : List (S71))),4)))) = some (r1,r2):=by rw [if_neg (show ¬ (false = true) by decide)] at H;exact H
     clear H
     have H:=H1
     clear H1
     replace H:=Option.bind_eq_some_iff.mp H
     obtain ⟨t941,A230,H⟩:=H
     replace H : (if t941 = true then ((spec_l09Find.f kj8 l0 a1_0 a1_2 a1_3 a1_4 a1_5).bind fun bt945 => (if bt945.1 ≥ 0 then ((some (([] : List (S71)) : List (S71))).bind fun y947 => (if y947.length + l0.length < 1759218604441 then (some ((y947 ++ l0),9)) else (none))) else ((spec_l09Open.f l0 a1_0 a1_1 a1_2 a1_3 a1_4 a1_5 1 0 a1_8 a2).bind fun bt953 => ((some (([] : List (S71)) : List (S71))).bind fun y957 => (if y957.length + bt953.1.length < 1759218604441 then (some ((y957 ++ bt953.1),bt953.2)) else (none)))))) else (some ((([] : List (S71))),4))) = some (r1,r2):=H
     have A23:=aMk A230
     clear A230
     by_cases c24 : t941 = true
     ·subst c24
      have H1 : ((spec_l09Find.f kj8 l0 a1_0 a1_2 a1_3 a1_4 a1_5).bind fun bt945 => (if bt945.1 ≥ 0 then ((some (([] : List (S71)) : List (S71))).bind fun y947 => (if y947.length + l0.length < 1759218604441 then (some ((y947 ++ l0),9)) else (none))) else ((spec_l09Open.f l0 a1_0 a1_1 a1_2 a1_3 a1_4 a1_5 1 0 a1_8 a2).bind fun bt953 => ((some (([] : List (S71)) : List (S71))).bind fun y957 => (if y957.length + bt953.1.length < 1759218604441 then (some ((y957 ++ bt953.1),bt953.2)) else (none)))))) = some (r1,r2):=by rw [if_pos rfl] at H;exact H
      clear H
      have H:=H1
      clear H1
      replace H:=Option.bind_eq_some_iff.mp H
      obtain ⟨⟨t945,t946⟩,A250,H⟩:=H
      replace H : (if t945 ≥ 0 then ((some (([] : List (S71)) : List (S71))).bind fun y947 => (if y947.length + l0.length < 1759218604441 then (some ((y947 ++ l0),9)) else (none))) else ((spec_l09Open.f l0 a1_0 a1_1 a1_2 a1_3 a1_4 a1_5 1 0 a1_8 a2).bind fun bt953 => ((some (([] : List (S71)) : List (S71))).bind fun y957 => (if y957.length + bt953.1.length < 1759218604441 then (some ((y957 ++ bt953.1),bt953.2)) else (none))))) = some (r1,r2):=H
      have A25:=aMk A250
      clear A250
      by_cases c26 : t945 ≥ 0
      ·rw [if_pos c26] at H
       have c26b0 : decide (0 ≤ t945) = true:=decide_eq_true c26
       clear c26
       obtain ⟨y947,hy947⟩ : ∃ y_ : List (S71),y_ = (([] : List (S71))):=⟨_,rfl⟩
       replace H : (if y947.length + l0.length < 1759218604441 then (some ((y947 ++ l0),9)) else (none)) = some (r1,r2):=by first|(rw [hy947];with_reducible exact H)|(have H2_:=(Option.bind_some _ _).symm.trans H;rw [hy947];with_reducible exact H2_)|(have H2_:=(Option.bind_some _ _).symm.trans H;with_reducible exact H2_) | with_reducible exact H|(rw [hy947];exact H)|exact H
       have Ny947:=aMk hy947
       clear hy947
       by_cases c27 : y947.length + l0.length < 1759218604441
       ·rw [if_pos c27] at H
        have LMc27:=aMk c27
        clear c27
        obtain ⟨y950,hy950⟩ : ∃ y_ : List (S71),y_ = (y947 ++ l0):=⟨_,rfl⟩
        replace H : (some (y950,9)) = some (r1,r2):=by first|(rw [hy950];with_reducible exact H)|(have H2_:=(Option.bind_some _ _).symm.trans H;rw [hy950];with_reducible exact H2_)|(have H2_:=(Option.bind_some _ _).symm.trans H;with_reducible exact H2_) | with_reducible exact H|(rw [hy950];exact H)|exact H
        have Ny950:=aMk hy950
        clear hy950
        simp only [Option.some.injEq,Prod.mk.injEq] at H
        obtain ⟨rfl,rfl⟩:=H
        go_wp2_with (first|((with_reducible refine gate_callee (f:=64) rfl ?_);refine goesL_ (some 28) rfl rfl Try.func64 (by kernel_rfl) rfl #[.int .i64 a2,.int .i64 0,.int .i64 100000] rfl (by (try simp only [List.map_toArray,List.map_cons,List.map_nil]);first | done | rfl|(simp only [List.length_drop,List.length_take];rfl)) ?_;(with_reducible refine (spec_l01In.calls a2 0 100000 true _ A23.out).mono ?_);rintro e w' ⟨rfl,⟨nd,rfl⟩⟩;refine ⟨_,rfl,?_⟩;have hcz28_0 : wc.cell? ⟨gb932,0,none⟩ = some (.int .i64 a1_0):=(bCe BK932.out 0).trans rfl;have hcz28_1 : wc.cell? ⟨gb932,1,none⟩ = some (.string a1_1):=(bCe BK932.out 1).trans rfl;have hcz28_2 : wc.cell? ⟨gb932,2,none⟩ = some (.int .i64 a1_2):=(bCe BK932.out 2).trans rfl;have hcz28_3 : wc.cell? ⟨gb932,3,none⟩ = some (.int .i64 a1_3):=(bCe BK932.out 3).trans rfl;have hcz28_4 : wc.cell? ⟨gb932,4,none⟩ = some (.int .i64 a1_4):=(bCe BK932.out 4).trans rfl;have hcz28_5 : wc.cell? ⟨gb932,5,none⟩ = some (.int .i64 a1_5):=(bCe BK932.out 5).trans rfl;have hcz28_6 : wc.cell? ⟨gb932,6,none⟩ = some (.int .i64 1):=(bCe BK932.out 6).trans rfl;have hcz28_7 : wc.cell? ⟨gb932,7,none⟩ = some (.int .i64 0):=(bCe BK932.out 7).trans rfl;have hcz28_8 : wc.cell? ⟨gb932,8,none⟩ = some (.int .i64 a1_8):=(bCe BK932.out 8).trans rfl;have hfz28_0:=bFr BK932.out 0;have hfz28_1:=bFr BK932.out 1;have hfz28_2:=bFr BK932.out 2;have hfz28_3:=bFr BK932.out 3;have hfz28_4:=bFr BK932.out 4;have hfz28_5:=bFr BK932.out 5;have hfz28_6:=bFr BK932.out 6;have hfz28_7:=bFr BK932.out 7;have hfz28_8:=bFr BK932.out 8)|((with_reducible refine gate_callee (f:=80) rfl ?_);refine goesL_ (some 43) rfl rfl Try.func80 (by kernel_rfl) rfl #[.slice Ao11 l0.length co11,.int .i64 a1_0,.int .i64 a1_2,.int .i64 a1_3,.int .i64 a1_4,.int .i64 a1_5] rfl (by (try simp only [List.map_toArray,List.map_cons,List.map_nil]);first | done | rfl|(simp only [List.length_drop,List.length_take];rfl)) ?_;(with_reducible refine (spec_l09Find.calls kj8 _ _ l0 a1_0 a1_2 a1_3 a1_4 a1_5 t945 t946 _ ?side1 ?side2 A25.out).mono ?_);(case side1 => repeat (first|exact (Kd.R_reads' HO_0.out).2.2|(with_reducible refine Kd.C_alloc ?_ _)|(with_reducible refine Kd.C_drewN ?_ _)|(with_reducible refine Kd.C_drew ?_)));(case side2 => exact (Kd.R_reads' HO_0.out).2.1);rintro e w29 ⟨rfl,hb⟩;refine ⟨_,rfl,?_⟩;have n0_:=aMk (Kd.R_below (by (with_reducible repeat (first|apply Kd.R_alloc|apply Kd.R_drewN|apply Kd.R_drew));exact HO_0.out) hb);have n1_:=aMk (blk_below (g:=gb932) (o:=.cells #[.int .i64 a1_0,.string a1_1,.int .i64 a1_2,.int .i64 a1_3,.int .i64 a1_4,.int .i64 a1_5,.int .i64 1,.int .i64 0,.int .i64 a1_8] 71 (0,0)) (by (with_reducible repeat (first|refine bDn ?_ _|refine bDr ?_|refine bAl ?_ _));exact BK932.out) hb);have n2_:=aMk (Kept.below (S:=(fun k_ => P0_ k_)) (by repeat (first|(with_reducible first|exact HK.out|apply Kept.alloc|apply Kept.drewN|apply Kept.drew|refine Kept.setCell ?_ (.inr GW932.out) _)|exact HK.out)) hb);have n3_:=aMk (below_step (by repeat (first|(with_reducible first|exact HB.out|apply bwA|apply bwN|apply bw1|refine below_set ?_ GE932.out)|exact HB.out)) hb);clear HO_0;clear BK932;clear HK;clear HB;have HO_0:=n0_;have BK932:=n1_;have HK:=n2_;have HB:=n3_;clear n0_ n1_ n2_ n3_;(try clear hb);(try clear hb2);(try clear hk);(try clear hi))|((with_reducible refine gate_dst (N:=48) rfl ?_);refine Kd.R_lit k71 _ 71 ?hg (N:=48) ?hd (xs:=([] : List (S71))) (inner:=[]) (ok:=fun _ => True) (okp:=fun _ => True) ?hr ?hp (fun _ hk => hk) trivial (Below.refl _ _) (Nat.le_refl _) (by simp) ?_;(case hd => rfl);(case hg => rfl);(case hr => first|(go_simp;done)|(go_simp;rfl));(case hp => exact (Reps.none _ _));intro v948 w30 ho31 hb hg_ hnew_;clear hg_ hnew_;(first|rw [← Ny947.out] at ho31|(simp only [Int.reduceToNat] at ho31;rw [← Ny947.out] at ho31));have n0_:=aMk (Kd.R_elder' (by (with_reducible repeat (first|apply Kd.R_alloc|apply Kd.R_drewN|apply Kd.R_drew));exact HO_0.out) (Kd.R_base ho31) hb);have n1_:=aMk (Kd.R_lower (Kd.R_newB (Kd.R_new' (Kd.R_newM (M:=fun k_ => (P0_ k_ ∨ w.heap.size ≤ k_)) ho31 (by first|exact HK.out.1|exact (show Kept w _ (fun k_ => P0_ k_) from by repeat (first|(with_reducible first|exact HK.out|apply Kept.alloc|apply Kept.drewN|apply Kept.drew|refine Kept.setCell ?_ (.inr GW932.out) _)|exact HK.out)).1) (fun k_ h_ => .inr h_)) (Kd.R_lt (by (with_reducible repeat (first|apply Kd.R_alloc|apply Kd.R_drewN|apply Kd.R_drew));exact HO_0.out))) (g:=gb932) (o:=.cells #[.int .i64 a1_0,.string a1_1,.int .i64 a1_2,.int .i64 a1_3,.int .i64 a1_4,.int .i64 a1_5,.int .i64 1,.int .i64 0,.int .i64 a1_8] 71 (0,0)) (by (with_reducible repeat (first|refine bDn ?_ _|refine bDr ?_|refine bAl ?_ _));exact BK932.out)) (below_size (by repeat (first|(with_reducible first|exact HB.out|apply bwA|apply bwN|apply bw1|refine below_set ?_ GE932.out)|exact HB.out))));have n2_:=aMk (blk_below (g:=gb932) (o:=.cells #[.int .i64 a1_0,.string a1_1,.int .i64 a1_2,.int .i64 a1_3,.int .i64 a1_4,.int .i64 a1_5,.int .i64 1,.int .i64 0,.int .i64 a1_8] 71 (0,0)) (by (with_reducible repeat (first|refine bDn ?_ _|refine bDr ?_|refine bAl ?_ _));exact BK932.out) hb);have n3_:=aMk (Kept.below (S:=(fun k_ => P0_ k_)) (by repeat (first|(with_reducible first|exact HK.out|apply Kept.alloc|apply Kept.drewN|apply Kept.drew|refine Kept.setCell ?_ (.inr GW932.out) _)|exact HK.out)) hb);have n4_:=aMk (below_step (by repeat (first|(with_reducible first|exact HB.out|apply bwA|apply bwN|apply bw1|refine below_set ?_ GE932.out)|exact HB.out)) hb);clear HO_0;clear BK932;clear HK;clear HB;have HO_0:=n0_;have HO949:=n1_;have BK932:=n2_;have HK:=n3_;have HB:=n4_;clear n0_ n1_ n2_ n3_ n4_;clear hb ho31)|((with_reducible refine gate_builtin (b:=.append) (xs:=#[.tmp 48,.tmp 49]) rfl ?_);at_builtin;refine Kd.R_append_rows k71 (w0:=w0) w0.heap.size rfl (.tmp 48) (.tmp 49) 40 71 (.agg #[(.int .i64 0),(.string ⟨#[]⟩),(.int .i64 0),(.int .i64 0),(.int .i64 0),(.int .i64 0),(.int .i64 0),(.int .i64 0),(.int .i64 0)]) 80 rfl Try.underlying40 info71 rfl (by decide) (by omega) v948 y947 l0 _ _ _ (fun k_ => (P0_ k_ ∨ w.heap.size ≤ k_) ∧ some k_ ≠ (.slice Ao11 l0.length co11 : Value).ownBlock ∧ k_ ≠ gb932) (fun _ => False) rfl rfl ?aO ?aR (fun _ _ h => h) (fun _ h => h.elim) ?aF ?aB ?aS ?aL ?_;(case aR => repeat (first|exact (Kd.R_reads' HO_0.out).2.2|(with_reducible refine Kd.C_alloc ?_ _)|(with_reducible refine Kd.C_drewN ?_ _)|(with_reducible refine Kd.C_drew ?_)));(case aB => exact (by repeat (first|(with_reducible first|exact HB.out|apply bwA|apply bwN|apply bw1|refine below_set ?_ GE932.out)|exact HB.out)));(case aF => exact (fun k_ hk => ⟨(.inr (Nat.le_trans (by first|exact HK.out.1|exact (show Kept w _ (fun k_ => P0_ k_) from by repeat (first|(with_reducible first|exact HK.out|apply Kept.alloc|apply Kept.drewN|apply Kept.drew|refine Kept.setCell ?_ (.inr GW932.out) _)|exact HK.out)).1) hk)),Kd.fresh' (Kd.R_lt (by (with_reducible repeat (first|apply Kd.R_alloc|apply Kd.R_drewN|apply Kd.R_drew));exact HO_0.out)) k_ hk,Kd.freshB (g:=gb932) (o:=.cells #[.int .i64 a1_0,.string a1_1,.int .i64 a1_2,.int .i64 a1_3,.int .i64 a1_4,.int .i64 a1_5,.int .i64 1,.int .i64 0,.int .i64 a1_8] 71 (0,0)) (by (with_reducible repeat (first|refine bDn ?_ _|refine bDr ?_|refine bAl ?_ _));exact BK932.out) k_ hk⟩));(case aO => exact (by (with_reducible repeat (first|apply Kd.R_alloc|apply Kd.R_drewN|apply Kd.R_drew));exact Kd.R_mono HO949.out (fun _ hk => ⟨hk.1.1.1,⟨hk.1.2,hk.2⟩⟩)));(case aS => exact (below_size (by repeat (first|(with_reducible first|exact HB.out|apply bwA|apply bwN|apply bw1|refine below_set ?_ GE932.out)|exact HB.out))));(case aL => have:=LMc27.out;omega);intro v951 w32 ho hb hg hat;rw [← Ny950.out] at ho;have n0_:=aMk (Kd.R_after (ok:=(fun k_ => (P0_ k_ ∨ w.heap.size ≤ k_) ∧ k_ ≠ gb932)) (by (with_reducible repeat (first|apply Kd.R_alloc|apply Kd.R_drewN|apply Kd.R_drew));exact HO_0.out) hg hat);have n1_:=aMk (blk_grown (g:=gb932) (o:=.cells #[.int .i64 a1_0,.string a1_1,.int .i64 a1_2,.int .i64 a1_3,.int .i64 a1_4,.int .i64 a1_5,.int .i64 1,.int .i64 0,.int .i64 a1_8] 71 (0,0)) (by (with_reducible repeat (first|refine bDn ?_ _|refine bDr ?_|refine bAl ?_ _));exact BK932.out) hg (Kd.R_away HO949.out (fun _ hk => hk.2)));have n2_:=aMk (hb);have n3_:=aMk (Kept.of_grown (S:=(fun k_ => P0_ k_)) hg (by repeat (first|(with_reducible first|exact HK.out|apply Kept.alloc|apply Kept.drewN|apply Kept.drew|refine Kept.setCell ?_ (.inr GW932.out) _)|exact HK.out)) (fun k_ e_ => (HO949.out.1 k_ e_).1.1.1));have n4_:=aMk (ho);clear HO_0;clear BK932;clear HB;clear HK;clear HO949;have HO_0:=n0_;have BK932:=n1_;have HB:=n2_;have HK:=n3_;have HO952:=n4_;clear n0_ n1_ n2_ n3_ n4_;clear ho hb hg hat))
        go_ret2
        exact ⟨_,by first | rfl|(simp [errW_none,errW_some] <;> rfl)|(simp [*,errW_none,errW_some] <;> rfl),by (with_reducible repeat (first|apply Kd.R_alloc|apply Kd.R_drewN|apply Kd.R_drew));exact Kd.R_mono HO952.out (fun _ hk => hk.1),by repeat (first|(with_reducible first|exact HB.out|apply bwA|apply bwN|apply bw1|refine below_set ?_ GE932.out)|exact HB.out),by repeat (first|(with_reducible first|exact HK.out|apply Kept.alloc|apply Kept.drewN|apply Kept.drew|refine Kept.setCell ?_ (.inr GW932.out) _)|exact HK.out)⟩
       ·rw [if_neg c27] at H
        exact absurd H (by simp)
      ·rw [if_neg c26] at H
       have c26b0 : decide (0 ≤ t945) = false:=decide_eq_false c26
       clear c26
       replace H:=Option.bind_eq_some_iff.mp H
       obtain ⟨⟨t953,t956⟩,A330,H⟩:=H
       replace H : ((some (([] : List (S71)) : List (S71))).bind fun y957 => (if y957.length + t953.length < 1759218604441 then (some ((y957 ++ t953),t956)) else (none))) = some (r1,r2):=H
       have A33:=aMk A330
       clear A330
       obtain ⟨y957,hy957⟩ : ∃ y_ : List (S71),y_ = (([] : List (S71))):=⟨_,rfl⟩
       replace H : (if y957.length + t953.length < 1759218604441 then (some ((y957 ++ t953),t956)) else (none)) = some (r1,r2):=by first|(rw [hy957];with_reducible exact H)|(have H2_:=(Option.bind_some _ _).symm.trans H;rw [hy957];with_reducible exact H2_)|(have H2_:=(Option.bind_some _ _).symm.trans H;with_reducible exact H2_) | with_reducible exact H|(rw [hy957];exact H)|exact H
       have Ny957:=aMk hy957
       clear hy957
       by_cases c34 : y957.length + t953.length < 1759218604441
       ·rw [if_pos c34] at H
        have LMc34:=aMk c34
        clear c34
        obtain ⟨y960,hy960⟩ : ∃ y_ : List (S71),y_ = (y957 ++ t953):=⟨_,rfl⟩
        replace H : (some (y960,t956)) = some (r1,r2):=by first|(rw [hy960];with_reducible exact H)|(have H2_:=(Option.bind_some _ _).symm.trans H;rw [hy960];with_reducible exact H2_)|(have H2_:=(Option.bind_some _ _).symm.trans H;with_reducible exact H2_) | with_reducible exact H|(rw [hy960];exact H)|exact H
        have Ny960:=aMk hy960
        clear hy960
        simp only [Option.some.injEq,Prod.mk.injEq] at H
        obtain ⟨rfl,rfl⟩:=H
        go_wp2_with (first|((with_reducible refine gate_callee (f:=64) rfl ?_);refine goesL_ (some 28) rfl rfl Try.func64 (by kernel_rfl) rfl #[.int .i64 a2,.int .i64 0,.int .i64 100000] rfl (by (try simp only [List.map_toArray,List.map_cons,List.map_nil]);first | done | rfl|(simp only [List.length_drop,List.length_take];rfl)) ?_;(with_reducible refine (spec_l01In.calls a2 0 100000 true _ A23.out).mono ?_);rintro e w' ⟨rfl,⟨nd,rfl⟩⟩;refine ⟨_,rfl,?_⟩;have hcz35_0 : wc.cell? ⟨gb932,0,none⟩ = some (.int .i64 a1_0):=(bCe BK932.out 0).trans rfl;have hcz35_1 : wc.cell? ⟨gb932,1,none⟩ = some (.string a1_1):=(bCe BK932.out 1).trans rfl;have hcz35_2 : wc.cell? ⟨gb932,2,none⟩ = some (.int .i64 a1_2):=(bCe BK932.out 2).trans rfl;have hcz35_3 : wc.cell? ⟨gb932,3,none⟩ = some (.int .i64 a1_3):=(bCe BK932.out 3).trans rfl;have hcz35_4 : wc.cell? ⟨gb932,4,none⟩ = some (.int .i64 a1_4):=(bCe BK932.out 4).trans rfl;have hcz35_5 : wc.cell? ⟨gb932,5,none⟩ = some (.int .i64 a1_5):=(bCe BK932.out 5).trans rfl;have hcz35_6 : wc.cell? ⟨gb932,6,none⟩ = some (.int .i64 1):=(bCe BK932.out 6).trans rfl;have hcz35_7 : wc.cell? ⟨gb932,7,none⟩ = some (.int .i64 0):=(bCe BK932.out 7).trans rfl;have hcz35_8 : wc.cell? ⟨gb932,8,none⟩ = some (.int .i64 a1_8):=(bCe BK932.out 8).trans rfl;have hfz35_0:=bFr BK932.out 0;have hfz35_1:=bFr BK932.out 1;have hfz35_2:=bFr BK932.out 2;have hfz35_3:=bFr BK932.out 3;have hfz35_4:=bFr BK932.out 4;have hfz35_5:=bFr BK932.out 5;have hfz35_6:=bFr BK932.out 6;have hfz35_7:=bFr BK932.out 7;have hfz35_8:=bFr BK932.out 8)|((with_reducible refine gate_callee (f:=80) rfl ?_);refine goesL_ (some 43) rfl rfl Try.func80 (by kernel_rfl) rfl #[.slice Ao11 l0.length co11,.int .i64 a1_0,.int .i64 a1_2,.int .i64 a1_3,.int .i64 a1_4,.int .i64 a1_5] rfl (by (try simp only [List.map_toArray,List.map_cons,List.map_nil]);first | done | rfl|(simp only [List.length_drop,List.length_take];rfl)) ?_;(with_reducible refine (spec_l09Find.calls kj8 _ _ l0 a1_0 a1_2 a1_3 a1_4 a1_5 t945 t946 _ ?side1 ?side2 A25.out).mono ?_);(case side1 => repeat (first|exact (Kd.R_reads' HO_0.out).2.2|(with_reducible refine Kd.C_alloc ?_ _)|(with_reducible refine Kd.C_drewN ?_ _)|(with_reducible refine Kd.C_drew ?_)));(case side2 => exact (Kd.R_reads' HO_0.out).2.1);rintro e w36 ⟨rfl,hb⟩;refine ⟨_,rfl,?_⟩;have n0_:=aMk (Kd.R_below (by (with_reducible repeat (first|apply Kd.R_alloc|apply Kd.R_drewN|apply Kd.R_drew));exact HO_0.out) hb);have n1_:=aMk (blk_below (g:=gb932) (o:=.cells #[.int .i64 a1_0,.string a1_1,.int .i64 a1_2,.int .i64 a1_3,.int .i64 a1_4,.int .i64 a1_5,.int .i64 1,.int .i64 0,.int .i64 a1_8] 71 (0,0)) (by (with_reducible repeat (first|refine bDn ?_ _|refine bDr ?_|refine bAl ?_ _));exact BK932.out) hb);have n2_:=aMk (Kept.below (S:=(fun k_ => P0_ k_)) (by repeat (first|(with_reducible first|exact HK.out|apply Kept.alloc|apply Kept.drewN|apply Kept.drew|refine Kept.setCell ?_ (.inr GW932.out) _)|exact HK.out)) hb);have n3_:=aMk (below_step (by repeat (first|(with_reducible first|exact HB.out|apply bwA|apply bwN|apply bw1|refine below_set ?_ GE932.out)|exact HB.out)) hb);clear HO_0;clear BK932;clear HK;clear HB;have HO_0:=n0_;have BK932:=n1_;have HK:=n2_;have HB:=n3_;clear n0_ n1_ n2_ n3_;(try clear hb);(try clear hb2);(try clear hk);(try clear hi);have hcz37_0 : w36.cell? ⟨gb932,0,none⟩ = some (.int .i64 a1_0):=(bCe BK932.out 0).trans rfl;have hcz37_1 : w36.cell? ⟨gb932,1,none⟩ = some (.string a1_1):=(bCe BK932.out 1).trans rfl;have hcz37_2 : w36.cell? ⟨gb932,2,none⟩ = some (.int .i64 a1_2):=(bCe BK932.out 2).trans rfl;have hcz37_3 : w36.cell? ⟨gb932,3,none⟩ = some (.int .i64 a1_3):=(bCe BK932.out 3).trans rfl;have hcz37_4 : w36.cell? ⟨gb932,4,none⟩ = some (.int .i64 a1_4):=(bCe BK932.out 4).trans rfl;have hcz37_5 : w36.cell? ⟨gb932,5,none⟩ = some (.int .i64 a1_5):=(bCe BK932.out 5).trans rfl;have hcz37_6 : w36.cell? ⟨gb932,6,none⟩ = some (.int .i64 1):=(bCe BK932.out 6).trans rfl;have hcz37_7 : w36.cell? ⟨gb932,7,none⟩ = some (.int .i64 0):=(bCe BK932.out 7).trans rfl;have hcz37_8 : w36.cell? ⟨gb932,8,none⟩ = some (.int .i64 a1_8):=(bCe BK932.out 8).trans rfl;have hfz37_0:=bFr BK932.out 0;have hfz37_1:=bFr BK932.out 1;have hfz37_2:=bFr BK932.out 2;have hfz37_3:=bFr BK932.out 3;have hfz37_4:=bFr BK932.out 4;have hfz37_5:=bFr BK932.out 5;have hfz37_6:=bFr BK932.out 6;have hfz37_7:=bFr BK932.out 7;have hfz37_8:=bFr BK932.out 8)|((with_reducible refine gate_callee (f:=97) rfl ?_);refine goesL_ (some 55) rfl rfl Try.func97 (by kernel_rfl) rfl #[.slice Ao11 l0.length co11,.agg #[.int .i64 a1_0,.string a1_1,.int .i64 a1_2,.int .i64 a1_3,.int .i64 a1_4,.int .i64 a1_5,.int .i64 1,.int .i64 0,.int .i64 a1_8],.int .i64 a2] rfl (by (try simp only [List.map_toArray,List.map_cons,List.map_nil]);first | done | rfl|(simp only [List.length_drop,List.length_take];rfl)) ?_;(with_reducible refine (spec_l09Open.calls (fun k_ => some k_ = (.slice Ao11 l0.length co11 : Value).ownBlock) (.slice Ao11 l0.length co11) l0 a1_0 a1_1 a1_2 a1_3 a1_4 a1_5 1 0 a1_8 a2 t953 t956 w0 _ ?side1 ?side2 A33.out).mono ?_);(case side1 => repeat (first|(with_reducible first|exact HB.out|apply bwA|apply bwN|apply bw1|refine below_set ?_ GE932.out)|exact HB.out));(case side2 => exact Kd.R_tight rfl HO_0.out);rintro e w38 ⟨v954,rfl,ho0,hb,hkp⟩;refine ⟨_,rfl,?_⟩;have n0_:=aMk (blk_kept (by (with_reducible repeat (first|refine bDn ?_ _|refine bDr ?_|refine bAl ?_ _));exact BK932.out) hkp (fun hs_ => (fun e_ => (Kd.R_away HO_0.out (fun _ hk => hk.2)) e_) hs_));have n1_:=aMk (Kd.R_mono (ok':=fun k_ => (P0_ k_ ∨ w.heap.size ≤ k_) ∧ k_ ≠ gb932) ho0 (fun k_ hk_ => ⟨Or.elim hk_ (fun hs_ => (HO_0.out.1 k_ (hs_).symm).1) (fun hn_ => (.inr (Nat.le_trans (by first|exact HK.out.1|exact (show Kept w _ (fun k_ => P0_ k_) from by repeat (first|(with_reducible first|exact HK.out|apply Kept.alloc|apply Kept.drewN|apply Kept.drew|refine Kept.setCell ?_ (.inr GW932.out) _)|exact HK.out)).1) hn_))),Or.elim hk_ (fun hs_ => fun e_ => (Kd.R_away HO_0.out (fun _ hk => hk.2)) (by rw [← e_];exact hs_)) (fun hn_ => (Kd.freshB (g:=gb932) (o:=.cells #[.int .i64 a1_0,.string a1_1,.int .i64 a1_2,.int .i64 a1_3,.int .i64 a1_4,.int .i64 a1_5,.int .i64 1,.int .i64 0,.int .i64 a1_8] 71 (0,0)) (by (with_reducible repeat (first|refine bDn ?_ _|refine bDr ?_|refine bAl ?_ _));exact BK932.out) k_ hn_))⟩));have n2_:=aMk (Kept.then_ (S:=(fun k_ => P0_ k_)) (by repeat (first|(with_reducible first|exact HK.out|apply Kept.alloc|apply Kept.drewN|apply Kept.drew|refine Kept.setCell ?_ (.inr GW932.out) _)|exact HK.out)) hkp (fun k_ hs_ => (fun e_ => (HO_0.out.1 k_ e_.symm).1) hs_));have n3_:=aMk (hb);clear BK932;clear HK;clear HB;clear HO_0;have BK932:=n0_;have HO955:=n1_;have HK:=n2_;have HB:=n3_;clear n0_ n1_ n2_ n3_;(try clear hb);(try clear hkp);(try clear ho0))|((with_reducible refine gate_dst (N:=58) rfl ?_);refine Kd.R_lit k71 _ 71 ?hg (N:=58) ?hd (xs:=([] : List (S71))) (inner:=[]) (ok:=fun _ => True) (okp:=fun _ => True) ?hr ?hp (fun _ hk => hk) trivial (Below.refl _ _) (Nat.le_refl _) (by simp) ?_;(case hd => rfl);(case hg => rfl);(case hr => first|(go_simp;done)|(go_simp;rfl));(case hp => exact (Reps.none _ _));intro v958 w39 ho40 hb hg_ hnew_;clear hg_ hnew_;(first|rw [← Ny957.out] at ho40|(simp only [Int.reduceToNat] at ho40;rw [← Ny957.out] at ho40));have n0_:=aMk (Kd.R_elder' (by (with_reducible repeat (first|apply Kd.R_alloc|apply Kd.R_drewN|apply Kd.R_drew));exact HO955.out) (Kd.R_base ho40) hb);have n1_:=aMk (Kd.R_lower (Kd.R_newB (Kd.R_new' (Kd.R_newM (M:=fun k_ => (P0_ k_ ∨ w.heap.size ≤ k_)) ho40 (by first|exact HK.out.1|exact (show Kept w _ (fun k_ => P0_ k_) from by repeat (first|(with_reducible first|exact HK.out|apply Kept.alloc|apply Kept.drewN|apply Kept.drew|refine Kept.setCell ?_ (.inr GW932.out) _)|exact HK.out)).1) (fun k_ h_ => .inr h_)) (Kd.R_lt (by (with_reducible repeat (first|apply Kd.R_alloc|apply Kd.R_drewN|apply Kd.R_drew));exact HO955.out))) (g:=gb932) (o:=.cells #[.int .i64 a1_0,.string a1_1,.int .i64 a1_2,.int .i64 a1_3,.int .i64 a1_4,.int .i64 a1_5,.int .i64 1,.int .i64 0,.int .i64 a1_8] 71 (0,0)) (by (with_reducible repeat (first|refine bDn ?_ _|refine bDr ?_|refine bAl ?_ _));exact BK932.out)) (below_size (by repeat (first|(with_reducible first|exact HB.out|apply bwA|apply bwN|apply bw1|refine below_set ?_ GE932.out)|exact HB.out))));have n2_:=aMk (blk_below (g:=gb932) (o:=.cells #[.int .i64 a1_0,.string a1_1,.int .i64 a1_2,.int .i64 a1_3,.int .i64 a1_4,.int .i64 a1_5,.int .i64 1,.int .i64 0,.int .i64 a1_8] 71 (0,0)) (by (with_reducible repeat (first|refine bDn ?_ _|refine bDr ?_|refine bAl ?_ _));exact BK932.out) hb);have n3_:=aMk (Kept.below (S:=(fun k_ => P0_ k_)) (by repeat (first|(with_reducible first|exact HK.out|apply Kept.alloc|apply Kept.drewN|apply Kept.drew|refine Kept.setCell ?_ (.inr GW932.out) _)|exact HK.out)) hb);have n4_:=aMk (below_step (by repeat (first|(with_reducible first|exact HB.out|apply bwA|apply bwN|apply bw1|refine below_set ?_ GE932.out)|exact HB.out)) hb);clear HO955;clear BK932;clear HK;clear HB;have HO955:=n0_;have HO959:=n1_;have BK932:=n2_;have HK:=n3_;have HB:=n4_;clear n0_ n1_ n2_ n3_ n4_;clear hb ho40;obtain ⟨Ao42,co42,eo42⟩:=Kd.R_slice HO955.out;subst eo42)|((with_reducible refine gate_builtin (b:=.append) (xs:=#[.tmp 58,.tmp 59]) rfl ?_);at_builtin;refine Kd.R_append_rows k71 (w0:=w0) w0.heap.size rfl (.tmp 58) (.tmp 59) 40 71 (.agg #[(.int .i64 0),(.string ⟨#[]⟩),(.int .i64 0),(.int .i64 0),(.int .i64 0),(.int .i64 0),(.int .i64 0),(.int .i64 0),(.int .i64 0)]) 80 rfl Try.underlying40 info71 rfl (by decide) (by omega) v958 y957 t953 _ _ _ (fun k_ => (P0_ k_ ∨ w.heap.size ≤ k_) ∧ some k_ ≠ (.slice Ao42 t953.length co42 : Value).ownBlock ∧ k_ ≠ gb932) (fun _ => False) rfl rfl ?aO ?aR (fun _ _ h => h) (fun _ h => h.elim) ?aF ?aB ?aS ?aL ?_;(case aR => repeat (first|exact (Kd.R_reads' HO955.out).2.2|(with_reducible refine Kd.C_alloc ?_ _)|(with_reducible refine Kd.C_drewN ?_ _)|(with_reducible refine Kd.C_drew ?_)));(case aB => exact (by repeat (first|(with_reducible first|exact HB.out|apply bwA|apply bwN|apply bw1|refine below_set ?_ GE932.out)|exact HB.out)));(case aF => exact (fun k_ hk => ⟨(.inr (Nat.le_trans (by first|exact HK.out.1|exact (show Kept w _ (fun k_ => P0_ k_) from by repeat (first|(with_reducible first|exact HK.out|apply Kept.alloc|apply Kept.drewN|apply Kept.drew|refine Kept.setCell ?_ (.inr GW932.out) _)|exact HK.out)).1) hk)),Kd.fresh' (Kd.R_lt (by (with_reducible repeat (first|apply Kd.R_alloc|apply Kd.R_drewN|apply Kd.R_drew));exact HO955.out)) k_ hk,Kd.freshB (g:=gb932) (o:=.cells #[.int .i64 a1_0,.string a1_1,.int .i64 a1_2,.int .i64 a1_3,.int .i64 a1_4,.int .i64 a1_5,.int .i64 1,.int .i64 0,.int .i64 a1_8] 71 (0,0)) (by (with_reducible repeat (first|refine bDn ?_ _|refine bDr ?_|refine bAl ?_ _));exact BK932.out) k_ hk⟩));(case aO => exact (by (with_reducible repeat (first|apply Kd.R_alloc|apply Kd.R_drewN|apply Kd.R_drew));exact Kd.R_mono HO959.out (fun _ hk => ⟨hk.1.1.1,⟨hk.1.2,hk.2⟩⟩)));(case aS => exact (below_size (by repeat (first|(with_reducible first|exact HB.out|apply bwA|apply bwN|apply bw1|refine below_set ?_ GE932.out)|exact HB.out))));(case aL => have:=LMc34.out;omega);intro v961 w41 ho hb hg hat;rw [← Ny960.out] at ho;have n0_:=aMk (blk_grown (g:=gb932) (o:=.cells #[.int .i64 a1_0,.string a1_1,.int .i64 a1_2,.int .i64 a1_3,.int .i64 a1_4,.int .i64 a1_5,.int .i64 1,.int .i64 0,.int .i64 a1_8] 71 (0,0)) (by (with_reducible repeat (first|refine bDn ?_ _|refine bDr ?_|refine bAl ?_ _));exact BK932.out) hg (Kd.R_away HO959.out (fun _ hk => hk.2)));have n1_:=aMk (Kd.R_after (ok:=(fun k_ => (P0_ k_ ∨ w.heap.size ≤ k_) ∧ k_ ≠ gb932)) (by (with_reducible repeat (first|apply Kd.R_alloc|apply Kd.R_drewN|apply Kd.R_drew));exact HO955.out) hg hat);have n2_:=aMk (hb);have n3_:=aMk (Kept.of_grown (S:=(fun k_ => P0_ k_)) hg (by repeat (first|(with_reducible first|exact HK.out|apply Kept.alloc|apply Kept.drewN|apply Kept.drew|refine Kept.setCell ?_ (.inr GW932.out) _)|exact HK.out)) (fun k_ e_ => (HO959.out.1 k_ e_).1.1.1));have n4_:=aMk (ho);clear BK932;clear HO955;clear HB;clear HK;clear HO959;have BK932:=n0_;have HO955:=n1_;have HB:=n2_;have HK:=n3_;have HO962:=n4_;clear n0_ n1_ n2_ n3_ n4_;clear ho hb hg hat))
        go_ret2
        exact ⟨_,by first | rfl|(simp [errW_none,errW_some] <;> rfl)|(simp [*,errW_none,errW_some] <;> rfl),by (with_reducible repeat (first|apply Kd.R_alloc|apply Kd.R_drewN|apply Kd.R_drew));exact Kd.R_mono HO962.out (fun _ hk => hk.1),by repeat (first|(with_reducible first|exact HB.out|apply bwA|apply bwN|apply bw1|refine below_set ?_ GE932.out)|exact HB.out),by repeat (first|(with_reducible first|exact HK.out|apply Kept.alloc|apply Kept.drewN|apply Kept.drew|refine Kept.setCell ?_ (.inr GW932.out) _)|exact HK.out)⟩
       ·rw [if_neg c34] at H
        exact absurd H (by simp)
     ·replace c24:=Bool.eq_false_iff.mpr c24
      subst c24
      have H1 : (some ((([] : List (S71))),4)) = some (r1,r2):=by rw [if_neg (show ¬ (false = true) by decide)] at H;exact H
      clear H
      have H:=H1
      clear H1
      obtain ⟨y942,hy942⟩ : ∃ y_ : List (S71),y_ = (([] : List (S71))):=⟨_,rfl⟩
      replace H : (some (y942,4)) = some (r1,r2):=by first|(rw [hy942];with_reducible exact H)|(have H2_:=(Option.bind_some _ _).symm.trans H;rw [hy942];with_reducible exact H2_)|(have H2_:=(Option.bind_some _ _).symm.trans H;with_reducible exact H2_) | with_reducible exact H|(rw [hy942];exact H)|exact H
      have Ny942:=aMk hy942
      clear hy942
      simp only [Option.some.injEq,Prod.mk.injEq] at H
      obtain ⟨rfl,rfl⟩:=H
      go_wp2_with (first|((with_reducible refine gate_callee (f:=64) rfl ?_);refine goesL_ (some 28) rfl rfl Try.func64 (by kernel_rfl) rfl #[.int .i64 a2,.int .i64 0,.int .i64 100000] rfl (by (try simp only [List.map_toArray,List.map_cons,List.map_nil]);first | done | rfl|(simp only [List.length_drop,List.length_take];rfl)) ?_;(with_reducible refine (spec_l01In.calls a2 0 100000 false _ A23.out).mono ?_);rintro e w' ⟨rfl,⟨nd,rfl⟩⟩;refine ⟨_,rfl,?_⟩)|((with_reducible refine gate_dst (N:=30) rfl ?_);refine Kd.R_lit k71 _ 71 ?hg (N:=30) ?hd (xs:=([] : List (S71))) (inner:=[]) (ok:=fun _ => True) (okp:=fun _ => True) ?hr ?hp (fun _ hk => hk) trivial (Below.refl _ _) (Nat.le_refl _) (by simp) ?_;(case hd => rfl);(case hg => rfl);(case hr => first|(go_simp;done)|(go_simp;rfl));(case hp => exact (Reps.none _ _));intro v943 w43 ho44 hb hg_ hnew_;clear hg_ hnew_;(first|rw [← Ny942.out] at ho44|(simp only [Int.reduceToNat] at ho44;rw [← Ny942.out] at ho44));have n0_:=aMk (Kd.R_elder' (by (with_reducible repeat (first|apply Kd.R_alloc|apply Kd.R_drewN|apply Kd.R_drew));exact HO_0.out) (Kd.R_base ho44) hb);have n1_:=aMk (Kd.R_lower (Kd.R_newB (Kd.R_new' (Kd.R_newM (M:=fun k_ => (P0_ k_ ∨ w.heap.size ≤ k_)) ho44 (by first|exact HK.out.1|exact (show Kept w _ (fun k_ => P0_ k_) from by repeat (first|(with_reducible first|exact HK.out|apply Kept.alloc|apply Kept.drewN|apply Kept.drew|refine Kept.setCell ?_ (.inr GW932.out) _)|exact HK.out)).1) (fun k_ h_ => .inr h_)) (Kd.R_lt (by (with_reducible repeat (first|apply Kd.R_alloc|apply Kd.R_drewN|apply Kd.R_drew));exact HO_0.out))) (g:=gb932) (o:=.cells #[.int .i64 a1_0,.string a1_1,.int .i64 a1_2,.int .i64 a1_3,.int .i64 a1_4,.int .i64 a1_5,.int .i64 1,.int .i64 0,.int .i64 a1_8] 71 (0,0)) (by (with_reducible repeat (first|refine bDn ?_ _|refine bDr ?_|refine bAl ?_ _));exact BK932.out)) (below_size (by repeat (first|(with_reducible first|exact HB.out|apply bwA|apply bwN|apply bw1|refine below_set ?_ GE932.out)|exact HB.out))));have n2_:=aMk (blk_below (g:=gb932) (o:=.cells #[.int .i64 a1_0,.string a1_1,.int .i64 a1_2,.int .i64 a1_3,.int .i64 a1_4,.int .i64 a1_5,.int .i64 1,.int .i64 0,.int .i64 a1_8] 71 (0,0)) (by (with_reducible repeat (first|refine bDn ?_ _|refine bDr ?_|refine bAl ?_ _));exact BK932.out) hb);have n3_:=aMk (Kept.below (S:=(fun k_ => P0_ k_)) (by repeat (first|(with_reducible first|exact HK.out|apply Kept.alloc|apply Kept.drewN|apply Kept.drew|refine Kept.setCell ?_ (.inr GW932.out) _)|exact HK.out)) hb);have n4_:=aMk (below_step (by repeat (first|(with_reducible first|exact HB.out|apply bwA|apply bwN|apply bw1|refine below_set ?_ GE932.out)|exact HB.out)) hb);clear HO_0;clear BK932;clear HK;clear HB;have HO_0:=n0_;have HO944:=n1_;have BK932:=n2_;have HK:=n3_;have HB:=n4_;clear n0_ n1_ n2_ n3_ n4_;clear hb ho44))
      go_ret2
      exact ⟨_,by first | rfl|(simp [errW_none,errW_some] <;> rfl)|(simp [*,errW_none,errW_some] <;> rfl),by (with_reducible repeat (first|apply Kd.R_alloc|apply Kd.R_drewN|apply Kd.R_drew));exact Kd.R_mono HO944.out (fun _ hk => hk.1.1.1),by repeat (first|(with_reducible first|exact HB.out|apply bwA|apply bwN|apply bw1|refine below_set ?_ GE932.out)|exact HB.out),by repeat (first|(with_reducible first|exact HK.out|apply Kept.alloc|apply Kept.drewN|apply Kept.drew|refine Kept.setCell ?_ (.inr GW932.out) _)|exact HK.out)⟩
end
section
theorem impl_Flow_100.eql (a : Addr) (n c : Nat) (w : World) : (Sem.run Try.prog (binOp BinOp.eql 40 (Value.slice (some a) n c) (Value.slice none 0 0)) w) = .ok (.bool false) w:=by
 simp only [binOp,Op.equal]
 rw [show Op.maxDepth = 9999 + 1 from rfl,Op.equalIn]
 simp
theorem impl_Flow_100.nil (n c : Nat) (w : World) : (Sem.run Try.prog (binOp BinOp.eql 40 (Value.slice none n c) (Value.slice none 0 0)) w) = .ok (.bool true) w:=by
 simp only [binOp,Op.equal]
 rw [show Op.maxDepth = 9999 + 1 from rfl,Op.equalIn]
 simp
attribute [local go_sem] impl_Flow_100.eql impl_Flow_100.nil
/-! ### impl_Flow_100: function 100 -/
def impl_Flow_100.f (l0 : List (S71)) : Option ((List (S71))):=(some (([] : List (S71)) : List (S71))).bind fun y851 => (if y851.length + l0.length < 1759218604441 then (some (y851 ++ l0)) else (none))
set_option maxHeartbeats 8000000 in
set_option maxRecDepth 100000 in
theorem impl_Flow_100.calls0 (a0_ : Addr) (c0 : Nat) (l0 : List (S71)) (r : List (S71)) (w : World) (hr0 : Kd.C k71 w (some a0_) l0.length l0) (hc0 : l0.length ≤ c0) (h : impl_Flow_100.f l0 = some r) :
  Calls Try.prog 100 #[.slice (some a0_) l0.length c0] w fun e w' => ∃ v0_ : Value,e = .returned (v0_) ∧ Kd.R k71 71 w' w.heap.size (fun _ => True) v0_ r ∧ Below w.heap.size w w':=by
 have HR0:=aMk hr0
 have HC0:=aMk hc0
 clear hr0 hc0
 have HB:=aMk (Below.refl w.heap.size w)
 have H : ((some (([] : List (S71)) : List (S71))).bind fun y851 => (if y851.length + l0.length < 1759218604441 then (some (y851 ++ l0)) else (none))) = some r:=h
 clear h
 obtain ⟨y851,hy851⟩ : ∃ y_ : List (S71),y_ = (([] : List (S71))):=⟨_,rfl⟩
 replace H : (if y851.length + l0.length < 1759218604441 then (some (y851 ++ l0)) else (none)) = some r:=by first|(rw [hy851];with_reducible exact H)|(have H2_:=(Option.bind_some _ _).symm.trans H;rw [hy851];with_reducible exact H2_)|(have H2_:=(Option.bind_some _ _).symm.trans H;with_reducible exact H2_) | with_reducible exact H|(rw [hy851];exact H)|exact H
 have Ny851:=aMk hy851
 clear hy851
 by_cases c2 : y851.length + l0.length < 1759218604441
 ·rw [if_pos c2] at H
  have LMc2:=aMk c2
  clear c2
  obtain ⟨y854,hy854⟩ : ∃ y_ : List (S71),y_ = (y851 ++ l0):=⟨_,rfl⟩
  replace H : (some y854) = some r:=by first|(rw [hy854];with_reducible exact H)|(have H2_:=(Option.bind_some _ _).symm.trans H;rw [hy854];with_reducible exact H2_)|(have H2_:=(Option.bind_some _ _).symm.trans H;with_reducible exact H2_) | with_reducible exact H|(rw [hy854];exact H)|exact H
  have Ny854:=aMk hy854
  clear hy854
  obtain rfl:=Option.some.inj H
  go_enter Try.func100,Try.ntmps100
  go_wp2_with (first|((with_reducible refine gate_dst (N:=5) rfl ?_);refine Kd.R_lit k71 _ 71 ?hg (N:=5) ?hd (xs:=([] : List (S71))) (inner:=[]) (ok:=fun _ => True) (okp:=fun _ => True) ?hr ?hp (fun _ hk => hk) trivial (Below.refl _ _) (Nat.le_refl _) (by simp) ?_;(case hd => rfl);(case hg => rfl);(case hr => first|(go_simp;done)|(go_simp;rfl));(case hp => exact (Reps.none _ _));intro v852 w3 ho4 hb hg_ hnew_;clear hg_ hnew_;(first|rw [← Ny851.out] at ho4|(simp only [Int.reduceToNat] at ho4;rw [← Ny851.out] at ho4));have n0_:=aMk (Kd.R_lower ho4 (below_size (by repeat first|exact HB.out|apply bwA|apply bwN|apply bw1)));have n1_:=aMk (below_step (by repeat first|exact HB.out|apply bwA|apply bwN|apply bw1) hb);clear HB;have HO853:=n0_;have HB:=n1_;clear n0_ n1_;clear hb ho4)|((with_reducible refine gate_builtin (b:=.append) (xs:=#[.tmp 5,.tmp 6]) rfl ?_);at_builtin;refine Kd.R_append_rows k71 (w0:=w) w.heap.size rfl (.tmp 5) (.tmp 6) 40 71 (.agg #[(.int .i64 0),(.string ⟨#[]⟩),(.int .i64 0),(.int .i64 0),(.int .i64 0),(.int .i64 0),(.int .i64 0),(.int .i64 0),(.int .i64 0)]) 80 rfl Try.underlying40 info71 rfl (by decide) (by omega) v852 y851 l0 _ _ _ (fun _ => True) (fun _ => False) rfl rfl ?aO ?aR (fun _ _ h => h) (fun _ h => h.elim) ?aF ?aB ?aS ?aL ?_;(case aR => repeat (first|exact (Kd.C_below HR0.out HB.out)|(with_reducible refine Kd.C_alloc ?_ _)|(with_reducible refine Kd.C_drewN ?_ _)|(with_reducible refine Kd.C_drew ?_)));(case aB => exact (by repeat first|exact HB.out|apply bwA|apply bwN|apply bw1));(case aF => exact (fun _ _ => trivial));(case aO => exact (by (with_reducible repeat (first|apply Kd.R_alloc|apply Kd.R_drewN|apply Kd.R_drew));exact HO853.out));(case aS => exact (below_size (by repeat first|exact HB.out|apply bwA|apply bwN|apply bw1)));(case aL => have:=LMc2.out;omega);intro v855 w5 ho hb hg hat;rw [← Ny854.out] at ho;have n0_:=aMk (hb);have n1_:=aMk (ho);clear HB;clear HO853;have HB:=n0_;have HO856:=n1_;clear n0_ n1_;clear ho hb hg hat))
  go_ret
  exact ⟨_,by first | rfl|(simp [errW_none,errW_some] <;> rfl)|(simp [*,errW_none,errW_some] <;> rfl),by (with_reducible repeat (first|apply Kd.R_alloc|apply Kd.R_drewN|apply Kd.R_drew));exact HO856.out,by repeat (first|(with_reducible first|exact HB.out|apply bwA|apply bwN|apply bw1)|exact HB.out)⟩
 ·rw [if_neg c2] at H
  exact absurd H (by simp)

set_option maxHeartbeats 8000000 in
set_option maxRecDepth 100000 in
theorem impl_Flow_100.calls (A0 : Option Addr) (c0 : Nat) (l0 : List (S71)) (r : List (S71)) (w : World) (hr0 : Kd.C k71 w A0 l0.length l0) (hc0 : l0.length ≤ c0) (h : impl_Flow_100.f l0 = some r) :
  Calls Try.prog 100 #[.slice A0 l0.length c0] w fun e w' => ∃ v0_ : Value,e = .returned (v0_) ∧ Kd.R k71 71 w' w.heap.size (fun _ => True) v0_ r ∧ Below w.heap.size w w':=by
 cases A0 with
 | some a => exact impl_Flow_100.calls0 a c0 l0 r w hr0 hc0 h
 | none =>
  have hl : l0 = []:=by
   cases l0 with
   | nil => rfl
   | cons y ys =>
    obtain ⟨ad,e_,_⟩:=at_T71 hr0 0 (by omega) (by simp)
    cases e_
  subst hl
  obtain rfl : r = []:=by simpa [impl_Flow_100.f] using h.symm
  go_enter Try.func100,Try.ntmps100
  go_wp2
  go_ret
  exact ⟨_,rfl,Kd.R_nil _ _ _ _ _,by repeat (first|exact Below.refl _ _|apply bwA|apply bwN|apply bw1)⟩
end
section
/-! ### impl_within: function 62 -/
def impl_within.f (a0 : Int) (a1 : Int) (a2 : Int) : Option (Bool):=if a0 ≥ a1 then (some (decide (a0 ≤ a2))) else (some false)
set_option maxHeartbeats 8000000 in
set_option maxRecDepth 100000 in
theorem impl_within.calls (a0 : Int) (a1 : Int) (a2 : Int) (r : Bool) (w : World) (h : impl_within.f a0 a1 a2 = some r) :
  Calls Try.prog 62 #[.int .i64 a0,.int .i64 a1,.int .i64 a2] w fun e w' => e = .returned (.bool r) ∧ Drawn0 w w':=by
 have H : (if a0 ≥ a1 then (some (decide (a0 ≤ a2))) else (some false)) = some r:=h
 clear h
 by_cases c4 : a0 ≥ a1
 ·rw [if_pos c4] at H
  have c4b0 : decide (a1 ≤ a0) = true:=decide_eq_true c4
  clear c4
  obtain rfl:=Option.some.inj H
  go_enter Try.func62,Try.ntmps62
  go_wp2
  go_ret
  exact ⟨by first | rfl|(simp;done)|(simp [*];done)|(simp [ne_nil_b];done)|(simp [ne_nil_b, *];done),by repeat (first|exact Drawn0.refl _|apply Drawn0.step)⟩
 ·rw [if_neg c4] at H
  have c4b0 : decide (a1 ≤ a0) = false:=decide_eq_false c4
  clear c4
  obtain rfl:=Option.some.inj H
  go_enter Try.func62,Try.ntmps62
  go_wp2
  go_ret
  exact ⟨by first | rfl|(simp;done)|(simp [*];done)|(simp [ne_nil_b];done)|(simp [ne_nil_b, *];done),by repeat (first|exact Drawn0.refl _|apply Drawn0.step)⟩
end
section
/-! ### impl_isAddress: function 61 -/
def impl_isAddress.f (a0 : Int) : Option (Bool):=(impl_within.f a0 0 4294967295).bind fun t106 => (some t106)
set_option maxHeartbeats 8000000 in
set_option maxRecDepth 100000 in
theorem impl_isAddress.calls (a0 : Int) (r : Bool) (w : World) (h : impl_isAddress.f a0 = some r) :
  Calls Try.prog 61 #[.int .i64 a0] w fun e w' => e = .returned (.bool r) ∧ Drawn0 w w':=by
 have H : ((impl_within.f a0 0 4294967295).bind fun t106 => (some t106)) = some r:=h
 clear h
 replace H:=Option.bind_eq_some_iff.mp H
 obtain ⟨t106,A20,H⟩:=H
 replace H : (some t106) = some r:=H
 have A2:=aMk A20
 clear A20
 obtain rfl:=Option.some.inj H
 go_enter Try.func61,Try.ntmps61
 go_wp2_with (first|((with_reducible refine gate_callee (f:=62) rfl ?_);refine goesL_ (some 4) rfl rfl Try.func62 (by kernel_rfl) rfl #[.int .i64 a0,.int .i64 0,.int .i64 4294967295] rfl (by (try simp only [List.map_toArray,List.map_cons,List.map_nil]);first | done | rfl|(simp only [List.length_drop,List.length_take];rfl)) ?_;(with_reducible refine (impl_within.calls a0 0 4294967295 t106 _ A2.out).mono ?_);rintro e w' ⟨rfl,⟨nd,rfl⟩⟩;refine ⟨_,rfl,?_⟩))
 go_ret
 exact ⟨by first | rfl|(simp;done)|(simp [*];done)|(simp [ne_nil_b];done)|(simp [ne_nil_b, *];done),by repeat (first|exact Drawn0.refl _|apply Drawn0.step)⟩
end
section
/-! ### impl_isProto: function 66 -/
def impl_isProto.f (a0 : Int) : Option (Bool):=(impl_within.f a0 0 255).bind fun t137 => (some t137)
set_option maxHeartbeats 8000000 in
set_option maxRecDepth 100000 in
theorem impl_isProto.calls (a0 : Int) (r : Bool) (w : World) (h : impl_isProto.f a0 = some r) :
  Calls Try.prog 66 #[.int .i64 a0] w fun e w' => e = .returned (.bool r) ∧ Drawn0 w w':=by
 have H : ((impl_within.f a0 0 255).bind fun t137 => (some t137)) = some r:=h
 clear h
 replace H:=Option.bind_eq_some_iff.mp H
 obtain ⟨t137,A20,H⟩:=H
 replace H : (some t137) = some r:=H
 have A2:=aMk A20
 clear A20
 obtain rfl:=Option.some.inj H
 go_enter Try.func66,Try.ntmps66
 go_wp2_with (first|((with_reducible refine gate_callee (f:=62) rfl ?_);refine goesL_ (some 4) rfl rfl Try.func62 (by kernel_rfl) rfl #[.int .i64 a0,.int .i64 0,.int .i64 255] rfl (by (try simp only [List.map_toArray,List.map_cons,List.map_nil]);first | done | rfl|(simp only [List.length_drop,List.length_take];rfl)) ?_;(with_reducible refine (impl_within.calls a0 0 255 t137 _ A2.out).mono ?_);rintro e w' ⟨rfl,⟨nd,rfl⟩⟩;refine ⟨_,rfl,?_⟩))
 go_ret
 exact ⟨by first | rfl|(simp;done)|(simp [*];done)|(simp [ne_nil_b];done)|(simp [ne_nil_b, *];done),by repeat (first|exact Drawn0.refl _|apply Drawn0.step)⟩
end
section
/-! ### impl_macOK: function 72 -/
def impl_macOK.f (a0 : ByteArray) : Option (Bool):=some ((a0.size : Int) == 6)
set_option maxHeartbeats 8000000 in
set_option maxRecDepth 100000 in
theorem impl_macOK.calls (a0 : ByteArray) (r : Bool) (w : World) (h : impl_macOK.f a0 = some r) :
  Calls Try.prog 72 #[.string a0] w fun e w' => e = .returned (.bool r) ∧ Drawn0 w w':=by
 have H : (some ((a0.size : Int) == 6)) = some r:=h
 clear h
 obtain rfl:=Option.some.inj H
 go_enter Try.func72,Try.ntmps72
 go_wp2
 go_ret
 exact ⟨by first | rfl|(simp;done)|(simp [*];done)|(simp [ne_nil_b];done)|(simp [ne_nil_b, *];done),by repeat (first|exact Drawn0.refl _|apply Drawn0.step)⟩
end
section
/-! ### impl_isPort: function 73 -/
def impl_isPort.f (a0 : Int) : Option (Bool):=(impl_within.f a0 0 65535).bind fun t165 => (some t165)
set_option maxHeartbeats 8000000 in
set_option maxRecDepth 100000 in
theorem impl_isPort.calls (a0 : Int) (r : Bool) (w : World) (h : impl_isPort.f a0 = some r) :
  Calls Try.prog 73 #[.int .i64 a0] w fun e w' => e = .returned (.bool r) ∧ Drawn0 w w':=by
 have H : ((impl_within.f a0 0 65535).bind fun t165 => (some t165)) = some r:=h
 clear h
 replace H:=Option.bind_eq_some_iff.mp H
 obtain ⟨t165,A20,H⟩:=H
 replace H : (some t165) = some r:=H
 have A2:=aMk A20
 clear A20
 obtain rfl:=Option.some.inj H
 go_enter Try.func73,Try.ntmps73
 go_wp2_with (first|((with_reducible refine gate_callee (f:=62) rfl ?_);refine goesL_ (some 4) rfl rfl Try.func62 (by kernel_rfl) rfl #[.int .i64 a0,.int .i64 0,.int .i64 65535] rfl (by (try simp only [List.map_toArray,List.map_cons,List.map_nil]);first | done | rfl|(simp only [List.length_drop,List.length_take];rfl)) ?_;(with_reducible refine (impl_within.calls a0 0 65535 t165 _ A2.out).mono ?_);rintro e w' ⟨rfl,⟨nd,rfl⟩⟩;refine ⟨_,rfl,?_⟩))
 go_ret
 exact ⟨by first | rfl|(simp;done)|(simp [*];done)|(simp [ne_nil_b];done)|(simp [ne_nil_b, *];done),by repeat (first|exact Drawn0.refl _|apply Drawn0.step)⟩
end
section
/-! ### impl_Flow_endsOKAt: function 1077 -/
def impl_Flow_endsOKAt.f (a0_0 : Int) (a0_1 : ByteArray) (a0_2 : Int) (a0_3 : Int) (a0_4 : Int) (a0_5 : Int) (a0_6 : Int) (a0_7 : Int) (a0_8 : Int) : Option (Bool):=(impl_isProto.f a0_0).bind fun t249 => (if t249 = true then ((impl_macOK.f a0_1).bind fun t250 => (if t250 = true then ((impl_isAddress.f a0_2).bind fun t251 => (if t251 = true then ((impl_isAddress.f a0_4).bind fun t252 => (if t252 = true then ((impl_isPort.f a0_3).bind fun t253 => (if t253 = true then ((impl_isPort.f a0_5).bind fun t254 => (if t254 = true then ((impl_within.f a0_8 0 10000).bind fun t255 => (some t255)) else (some false))) else (some false))) else (some false))) else (some false))) else (some false))) else (some false))
set_option maxHeartbeats 8000000 in
set_option maxRecDepth 100000 in
theorem impl_Flow_endsOKAt.calls0 (A_ : Addr) (n_ : Nat) (a0_0 : Int) (a0_1 : ByteArray) (a0_2 : Int) (a0_3 : Int) (a0_4 : Int) (a0_5 : Int) (a0_6 : Int) (a0_7 : Int) (a0_8 : Int) (r : Bool) (w : World) (hq0 : w.cell? (A_.add n_) = some (.int .i64 a0_0)) (hq1 : w.cell? (⟨(A_.add n_).block,(A_.add n_).off + 1,none⟩) = some (.string a0_1)) (hq2 : w.cell? (⟨(A_.add n_).block,(A_.add n_).off + 2,none⟩) = some (.int .i64 a0_2)) (hq3 : w.cell? (⟨(A_.add n_).block,(A_.add n_).off + 3,none⟩) = some (.int .i64 a0_3)) (hq4 : w.cell? (⟨(A_.add n_).block,(A_.add n_).off + 4,none⟩) = some (.int .i64 a0_4)) (hq5 : w.cell? (⟨(A_.add n_).block,(A_.add n_).off + 5,none⟩) = some (.int .i64 a0_5)) (hq6 : w.cell? (⟨(A_.add n_).block,(A_.add n_).off + 6,none⟩) = some (.int .i64 a0_6)) (hq7 : w.cell? (⟨(A_.add n_).block,(A_.add n_).off + 7,none⟩) = some (.int .i64 a0_7)) (hq8 : w.cell? (⟨(A_.add n_).block,(A_.add n_).off + 8,none⟩) = some (.int .i64 a0_8)) (h : impl_Flow_endsOKAt.f a0_0 a0_1 a0_2 a0_3 a0_4 a0_5 a0_6 a0_7 a0_8 = some r) :
  Calls Try.prog 77 #[.pointer (some (A_.add n_))] w fun e w' => e = .returned (.bool r) ∧ Drawn0 w w':=by
 have HQ0:=aMk hq0
 clear hq0
 have HQ1:=aMk hq1
 clear hq1
 have HQ2:=aMk hq2
 clear hq2
 have HQ3:=aMk hq3
 clear hq3
 have HQ4:=aMk hq4
 clear hq4
 have HQ5:=aMk hq5
 clear hq5
 have HQ6:=aMk hq6
 clear hq6
 have HQ7:=aMk hq7
 clear hq7
 have HQ8:=aMk hq8
 clear hq8
 have H : ((impl_isProto.f a0_0).bind fun t249 => (if t249 = true then ((impl_macOK.f a0_1).bind fun t250 => (if t250 = true then ((impl_isAddress.f a0_2).bind fun t251 => (if t251 = true then ((impl_isAddress.f a0_4).bind fun t252 => (if t252 = true then ((impl_isPort.f a0_3).bind fun t253 => (if t253 = true then ((impl_isPort.f a0_5).bind fun t254 => (if t254 = true then ((impl_within.f a0_8 0 10000).bind fun t255 => (some t255)) else (some false))) else (some false))) else (some false))) else (some false))) else (some false))) else (some false))) = some r:=h
 clear h
 replace H:=Option.bind_eq_some_iff.mp H
 obtain ⟨t249,A20,H⟩:=H
 replace H : (if t249 = true then ((impl_macOK.f a0_1).bind fun t250 => (if t250 = true then ((impl_isAddress.f a0_2).bind fun t251 => (if t251 = true then ((impl_isAddress.f a0_4).bind fun t252 => (if t252 = true then ((impl_isPort.f a0_3).bind fun t253 => (if t253 = true then ((impl_isPort.f a0_5).bind fun t254 => (if t254 = true then ((impl_within.f a0_8 0 10000).bind fun t255 => (some t255)) else (some false))) else (some false))) else (some false))) else (some false))) else (some false))) else (some false)) = some r:=H
 have A2:=aMk A20
 clear A20
 by_cases c3 : t249 = true
 ·subst c3
  have H1 : ((impl_macOK.f a0_1).bind fun t250 => (if t250 = true then ((impl_isAddress.f a0_2).bind fun t251 => (if t251 = true then ((impl_isAddress.f a0_4).bind fun t252 => (if t252 = true then ((impl_isPort.f a0_3).bind fun t253 => (if t253 = true then ((impl_isPort.f a0_5).bind fun t254 => (if t254 = true then ((impl_within.f a0_8 0 10000).bind fun t255 => (some t255)) else (some false))) else (some false))) else (some false))) else (some false))) else (some false))) = some r:=by rw [if_pos rfl] at H;exact H
  clear H
  have H:=H1
  clear H1
  replace H:=Option.bind_eq_some_iff.mp H
  obtain ⟨t250,A40,H⟩:=H
  replace H : (if t250 = true then ((impl_isAddress.f a0_2).bind fun t251 => (if t251 = true then ((impl_isAddress.f a0_4).bind fun t252 => (if t252 = true then ((impl_isPort.f a0_3).bind fun t253 => (if t253 = true then ((impl_isPort.f a0_5).bind fun t254 => (if t254 = true then ((impl_within.f a0_8 0 10000).bind fun t255 => (some t255)) else (some false))) else (some false))) else (some false))) else (some false))) else (some false)) = some r:=H
  have A4:=aMk A40
  clear A40
  by_cases c5 : t250 = true
  ·subst c5
   have H1 : ((impl_isAddress.f a0_2).bind fun t251 => (if t251 = true then ((impl_isAddress.f a0_4).bind fun t252 => (if t252 = true then ((impl_isPort.f a0_3).bind fun t253 => (if t253 = true then ((impl_isPort.f a0_5).bind fun t254 => (if t254 = true then ((impl_within.f a0_8 0 10000).bind fun t255 => (some t255)) else (some false))) else (some false))) else (some false))) else (some false))) = some r:=by rw [if_pos rfl] at H;exact H
   clear H
   have H:=H1
   clear H1
   replace H:=Option.bind_eq_some_iff.mp H
   obtain ⟨t251,A60,H⟩:=H
   replace H : (if t251 = true then ((impl_isAddress.f a0_4).bind fun t252 => (if t252 = true then ((impl_isPort.f a0_3).bind fun t253 => (if t253 = true then ((impl_isPort.f a0_5).bind fun t254 => (if t254 = true then ((impl_within.f a0_8 0 10000).bind fun t255 => (some t255)) else (some false))) else (some false))) else (some false))) else (some false)) = some r:=H
   have A6:=aMk A60
   clear A60
   by_cases c7 : t251 = true
   ·subst c7
    have H1 : ((impl_isAddress.f a0_4).bind fun t252 => (if t252 = true then ((impl_isPort.f a0_3).bind fun t253 => (if t253 = true then ((impl_isPort.f a0_5).bind fun t254 => (if t254 = true then ((impl_within.f a0_8 0 10000).bind fun t255 => (some t255)) else (some false))) else (some false))) else (some false))) = some r:=by rw [if_pos rfl] at H;exact H
    clear H
    have H:=H1
    clear H1
    replace H:=Option.bind_eq_some_iff.mp H
    obtain ⟨t252,A80,H⟩:=H
    replace H : (if t252 = true then ((impl_isPort.f a0_3).bind fun t253 => (if t253 = true then ((impl_isPort.f a0_5).bind fun t254 => (if t254 = true then ((impl_within.f a0_8 0 10000).bind fun t255 => (some t255)) else (some false))) else (some false))) else (some false)) = some r:=H
    have A8:=aMk A80
    clear A80
    by_cases c9 : t252 = true
    ·subst c9
     have H1 : ((impl_isPort.f a0_3).bind fun t253 => (if t253 = true then ((impl_isPort.f a0_5).bind fun t254 => (if t254 = true then ((impl_within.f a0_8 0 10000).bind fun t255 => (some t255)) else (some false))) else (some false))) = some r:=by rw [if_pos rfl] at H;exact H
     clear H
     have H:=H1
     clear H1
     replace H:=Option.bind_eq_some_iff.mp H
     obtain ⟨t253,A100,H⟩:=H
     replace H : (if t253 = true then ((impl_isPort.f a0_5).bind fun t254 => (if t254 = true then ((impl_within.f a0_8 0 10000).bind fun t255 => (some t255)) else (some false))) else (some false)) = some r:=H
     have A10:=aMk A100
     clear A100
     by_cases c11 : t253 = true
     ·subst c11
      have H1 : ((impl_isPort.f a0_5).bind fun t254 => (if t254 = true then ((impl_within.f a0_8 0 10000).bind fun t255 => (some t255)) else (some false))) = some r:=by rw [if_pos rfl] at H;exact H
      clear H
      have H:=H1
      clear H1
      replace H:=Option.bind_eq_some_iff.mp H
      obtain ⟨t254,A120,H⟩:=H
      replace H : (if t254 = true then ((impl_within.f a0_8 0 10000).bind fun t255 => (some t255)) else (some false)) = some r:=H
      have A12:=aMk A120
      clear A120
      by_cases c13 : t254 = true
      ·subst c13
       have H1 : ((impl_within.f a0_8 0 10000).bind fun t255 => (some t255)) = some r:=by rw [if_pos rfl] at H;exact H
       clear H
       have H:=H1
       clear H1
       replace H:=Option.bind_eq_some_iff.mp H
       obtain ⟨t255,A140,H⟩:=H
       replace H : (some t255) = some r:=H
       have A14:=aMk A140
       clear A140
       obtain rfl:=Option.some.inj H
       have hcq0:=HQ0.out
       have hcq1:=HQ1.out
       have hcq2:=HQ2.out
       have hcq3:=HQ3.out
       have hcq4:=HQ4.out
       have hcq5:=HQ5.out
       have hcq6:=HQ6.out
       have hcq7:=HQ7.out
       have hcq8:=HQ8.out
       go_enter Try.func77,Try.ntmps77
       go_wp2_with (first|((with_reducible refine gate_callee (f:=66) rfl ?_);refine goesL_ (some 8) rfl rfl Try.func66 (by kernel_rfl) rfl #[.int .i64 a0_0] rfl (by (try simp only [List.map_toArray,List.map_cons,List.map_nil]);first | done | rfl|(simp only [List.length_drop,List.length_take];rfl)) ?_;(with_reducible refine (impl_isProto.calls a0_0 true _ A2.out).mono ?_);rintro e w' ⟨rfl,⟨nd,rfl⟩⟩;refine ⟨_,rfl,?_⟩)|(go_at_call 72;(with_reducible refine (impl_macOK.calls a0_1 true _ A4.out).mono ?_);rintro e w' ⟨rfl,⟨nd,rfl⟩⟩)|(go_at_call 61;(with_reducible refine (impl_isAddress.calls a0_2 true _ A6.out).mono ?_);rintro e w' ⟨rfl,⟨nd,rfl⟩⟩)|(go_at_call 61;(with_reducible refine (impl_isAddress.calls a0_4 true _ A8.out).mono ?_);rintro e w' ⟨rfl,⟨nd,rfl⟩⟩)|(go_at_call 73;(with_reducible refine (impl_isPort.calls a0_3 true _ A10.out).mono ?_);rintro e w' ⟨rfl,⟨nd,rfl⟩⟩)|(go_at_call 73;(with_reducible refine (impl_isPort.calls a0_5 true _ A12.out).mono ?_);rintro e w' ⟨rfl,⟨nd,rfl⟩⟩)|(go_at_call 62;(with_reducible refine (impl_within.calls a0_8 0 10000 t255 _ A14.out).mono ?_);rintro e w' ⟨rfl,⟨nd,rfl⟩⟩))
       go_ret
       exact ⟨by first | rfl|(simp;done)|(simp [*];done)|(simp [ne_nil_b];done)|(simp [ne_nil_b, *];done),by repeat (first|exact Drawn0.refl _|apply Drawn0.step)⟩
      ·replace c13:=Bool.eq_false_iff.mpr c13
       subst c13
       have H1 : (some false) = some r:=by rw [if_neg (show ¬ (false = true) by decide)] at H;exact H
       clear H
       have H:=H1
       clear H1
       obtain rfl:=Option.some.inj H
       have hcq0:=HQ0.out
       have hcq1:=HQ1.out
       have hcq2:=HQ2.out
       have hcq3:=HQ3.out
       have hcq4:=HQ4.out
       have hcq5:=HQ5.out
       have hcq6:=HQ6.out
       have hcq7:=HQ7.out
       have hcq8:=HQ8.out
       go_enter Try.func77,Try.ntmps77
       go_wp2_with (first|((with_reducible refine gate_callee (f:=66) rfl ?_);refine goesL_ (some 8) rfl rfl Try.func66 (by kernel_rfl) rfl #[.int .i64 a0_0] rfl (by (try simp only [List.map_toArray,List.map_cons,List.map_nil]);first | done | rfl|(simp only [List.length_drop,List.length_take];rfl)) ?_;(with_reducible refine (impl_isProto.calls a0_0 true _ A2.out).mono ?_);rintro e w' ⟨rfl,⟨nd,rfl⟩⟩;refine ⟨_,rfl,?_⟩)|(go_at_call 72;(with_reducible refine (impl_macOK.calls a0_1 true _ A4.out).mono ?_);rintro e w' ⟨rfl,⟨nd,rfl⟩⟩)|(go_at_call 61;(with_reducible refine (impl_isAddress.calls a0_2 true _ A6.out).mono ?_);rintro e w' ⟨rfl,⟨nd,rfl⟩⟩)|(go_at_call 61;(with_reducible refine (impl_isAddress.calls a0_4 true _ A8.out).mono ?_);rintro e w' ⟨rfl,⟨nd,rfl⟩⟩)|(go_at_call 73;(with_reducible refine (impl_isPort.calls a0_3 true _ A10.out).mono ?_);rintro e w' ⟨rfl,⟨nd,rfl⟩⟩)|(go_at_call 73;(with_reducible refine (impl_isPort.calls a0_5 false _ A12.out).mono ?_);rintro e w' ⟨rfl,⟨nd,rfl⟩⟩))
       go_ret
       exact ⟨by first | rfl|(simp;done)|(simp [*];done)|(simp [ne_nil_b];done)|(simp [ne_nil_b, *];done),by repeat (first|exact Drawn0.refl _|apply Drawn0.step)⟩
     ·replace c11:=Bool.eq_false_iff.mpr c11
      subst c11
      have H1 : (some false) = some r:=by rw [if_neg (show ¬ (false = true) by decide)] at H;exact H
      clear H
      have H:=H1
      clear H1
      obtain rfl:=Option.some.inj H
      have hcq0:=HQ0.out
      have hcq1:=HQ1.out
      have hcq2:=HQ2.out
      have hcq3:=HQ3.out
      have hcq4:=HQ4.out
      have hcq5:=HQ5.out
      have hcq6:=HQ6.out
      have hcq7:=HQ7.out
      have hcq8:=HQ8.out
      go_enter Try.func77,Try.ntmps77
      go_wp2_with (first|((with_reducible refine gate_callee (f:=66) rfl ?_);refine goesL_ (some 8) rfl rfl Try.func66 (by kernel_rfl) rfl #[.int .i64 a0_0] rfl (by (try simp only [List.map_toArray,List.map_cons,List.map_nil]);first | done | rfl|(simp only [List.length_drop,List.length_take];rfl)) ?_;(with_reducible refine (impl_isProto.calls a0_0 true _ A2.out).mono ?_);rintro e w' ⟨rfl,⟨nd,rfl⟩⟩;refine ⟨_,rfl,?_⟩)|(go_at_call 72;(with_reducible refine (impl_macOK.calls a0_1 true _ A4.out).mono ?_);rintro e w' ⟨rfl,⟨nd,rfl⟩⟩)|(go_at_call 61;(with_reducible refine (impl_isAddress.calls a0_2 true _ A6.out).mono ?_);rintro e w' ⟨rfl,⟨nd,rfl⟩⟩)|(go_at_call 61;(with_reducible refine (impl_isAddress.calls a0_4 true _ A8.out).mono ?_);rintro e w' ⟨rfl,⟨nd,rfl⟩⟩)|(go_at_call 73;(with_reducible refine (impl_isPort.calls a0_3 false _ A10.out).mono ?_);rintro e w' ⟨rfl,⟨nd,rfl⟩⟩))
      go_ret
      exact ⟨by first | rfl|(simp;done)|(simp [*];done)|(simp [ne_nil_b];done)|(simp [ne_nil_b, *];done),by repeat (first|exact Drawn0.refl _|apply Drawn0.step)⟩
    ·replace c9:=Bool.eq_false_iff.mpr c9
     subst c9
     have H1 : (some false) = some r:=by rw [if_neg (show ¬ (false = true) by decide)] at H;exact H
     clear H
     have H:=H1
     clear H1
     obtain rfl:=Option.some.inj H
     have hcq0:=HQ0.out
     have hcq1:=HQ1.out
     have hcq2:=HQ2.out
     have hcq3:=HQ3.out
     have hcq4:=HQ4.out
     have hcq5:=HQ5.out
     have hcq6:=HQ6.out
     have hcq7:=HQ7.out
     have hcq8:=HQ8.out
     go_enter Try.func77,Try.ntmps77
     go_wp2_with (first|((with_reducible refine gate_callee (f:=66) rfl ?_);refine goesL_ (some 8) rfl rfl Try.func66 (by kernel_rfl) rfl #[.int .i64 a0_0] rfl (by (try simp only [List.map_toArray,List.map_cons,List.map_nil]);first | done | rfl|(simp only [List.length_drop,List.length_take];rfl)) ?_;(with_reducible refine (impl_isProto.calls a0_0 true _ A2.out).mono ?_);rintro e w' ⟨rfl,⟨nd,rfl⟩⟩;refine ⟨_,rfl,?_⟩)|(go_at_call 72;(with_reducible refine (impl_macOK.calls a0_1 true _ A4.out).mono ?_);rintro e w' ⟨rfl,⟨nd,rfl⟩⟩)|(go_at_call 61;(with_reducible refine (impl_isAddress.calls a0_2 true _ A6.out).mono ?_);rintro e w' ⟨rfl,⟨nd,rfl⟩⟩)|(go_at_call 61;(with_reducible refine (impl_isAddress.calls a0_4 false _ A8.out).mono ?_);rintro e w' ⟨rfl,⟨nd,rfl⟩⟩))
     go_ret
     exact ⟨by first | rfl|(simp;done)|(simp [*];done)|(simp [ne_nil_b];done)|(simp [ne_nil_b, *];done),by repeat (first|exact Drawn0.refl _|apply Drawn0.step)⟩
   ·replace c7:=Bool.eq_false_iff.mpr c7
    subst c7
    have H1 : (some false) = some r:=by rw [if_neg (show ¬ (false = true) by decide)] at H;exact H
    clear H
    have H:=H1
    clear H1
    obtain rfl:=Option.some.inj H
    have hcq0:=HQ0.out
    have hcq1:=HQ1.out
    have hcq2:=HQ2.out
    have hcq3:=HQ3.out
    have hcq4:=HQ4.out
    have hcq5:=HQ5.out
    have hcq6:=HQ6.out
    have hcq7:=HQ7.out
    have hcq8:=HQ8.out
    go_enter Try.func77,Try.ntmps77
    go_wp2_with (first|((with_reducible refine gate_callee (f:=66) rfl ?_);refine goesL_ (some 8) rfl rfl Try.func66 (by kernel_rfl) rfl #[.int .i64 a0_0] rfl (by (try simp only [List.map_toArray,List.map_cons,List.map_nil]);first | done | rfl|(simp only [List.length_drop,List.length_take];rfl)) ?_;(with_reducible refine (impl_isProto.calls a0_0 true _ A2.out).mono ?_);rintro e w' ⟨rfl,⟨nd,rfl⟩⟩;refine ⟨_,rfl,?_⟩)|(go_at_call 72;(with_reducible refine (impl_macOK.calls a0_1 true _ A4.out).mono ?_);rintro e w' ⟨rfl,⟨nd,rfl⟩⟩)|(go_at_call 61;(with_reducible refine (impl_isAddress.calls a0_2 false _ A6.out).mono ?_);rintro e w' ⟨rfl,⟨nd,rfl⟩⟩))
    go_ret
    exact ⟨by first | rfl|(simp;done)|(simp [*];done)|(simp [ne_nil_b];done)|(simp [ne_nil_b, *];done),by repeat (first|exact Drawn0.refl _|apply Drawn0.step)⟩
  ·replace c5:=Bool.eq_false_iff.mpr c5
   subst c5
   have H1 : (some false) = some r:=by rw [if_neg (show ¬ (false = true) by decide)] at H;exact H
   clear H
   have H:=H1
   clear H1
   obtain rfl:=Option.some.inj H
   have hcq0:=HQ0.out
   have hcq1:=HQ1.out
   have hcq2:=HQ2.out
   have hcq3:=HQ3.out
   have hcq4:=HQ4.out
   have hcq5:=HQ5.out
   have hcq6:=HQ6.out
   have hcq7:=HQ7.out
   have hcq8:=HQ8.out
   go_enter Try.func77,Try.ntmps77
   go_wp2_with (first|((with_reducible refine gate_callee (f:=66) rfl ?_);refine goesL_ (some 8) rfl rfl Try.func66 (by kernel_rfl) rfl #[.int .i64 a0_0] rfl (by (try simp only [List.map_toArray,List.map_cons,List.map_nil]);first | done | rfl|(simp only [List.length_drop,List.length_take];rfl)) ?_;(with_reducible refine (impl_isProto.calls a0_0 true _ A2.out).mono ?_);rintro e w' ⟨rfl,⟨nd,rfl⟩⟩;refine ⟨_,rfl,?_⟩)|(go_at_call 72;(with_reducible refine (impl_macOK.calls a0_1 false _ A4.out).mono ?_);rintro e w' ⟨rfl,⟨nd,rfl⟩⟩))
   go_ret
   exact ⟨by first | rfl|(simp;done)|(simp [*];done)|(simp [ne_nil_b];done)|(simp [ne_nil_b, *];done),by repeat (first|exact Drawn0.refl _|apply Drawn0.step)⟩
 ·replace c3:=Bool.eq_false_iff.mpr c3
  subst c3
  have H1 : (some false) = some r:=by rw [if_neg (show ¬ (false = true) by decide)] at H;exact H
  clear H
  have H:=H1
  clear H1
  obtain rfl:=Option.some.inj H
  have hcq0:=HQ0.out
  have hcq1:=HQ1.out
  have hcq2:=HQ2.out
  have hcq3:=HQ3.out
  have hcq4:=HQ4.out
  have hcq5:=HQ5.out
  have hcq6:=HQ6.out
  have hcq7:=HQ7.out
  have hcq8:=HQ8.out
  go_enter Try.func77,Try.ntmps77
  go_wp2_with (first|((with_reducible refine gate_callee (f:=66) rfl ?_);refine goesL_ (some 8) rfl rfl Try.func66 (by kernel_rfl) rfl #[.int .i64 a0_0] rfl (by (try simp only [List.map_toArray,List.map_cons,List.map_nil]);first | done | rfl|(simp only [List.length_drop,List.length_take];rfl)) ?_;(with_reducible refine (impl_isProto.calls a0_0 false _ A2.out).mono ?_);rintro e w' ⟨rfl,⟨nd,rfl⟩⟩;refine ⟨_,rfl,?_⟩))
  go_ret
  exact ⟨by first | rfl|(simp;done)|(simp [*];done)|(simp [ne_nil_b];done)|(simp [ne_nil_b, *];done),by repeat (first|exact Drawn0.refl _|apply Drawn0.step)⟩
theorem impl_Flow_endsOKAt.calls (A_ : Addr) (n_ : Nat) (a0_0 : Int) (a0_1 : ByteArray) (a0_2 : Int) (a0_3 : Int) (a0_4 : Int) (a0_5 : Int) (a0_6 : Int) (a0_7 : Int) (a0_8 : Int) (r : Bool) (w : World) (hq0 : w.cell? (A_.add n_) = some (.int .i64 a0_0)) (hq1 : w.cell? (⟨(A_.add n_).block,(A_.add n_).off + 1,none⟩) = some (.string a0_1)) (hq2 : w.cell? (⟨(A_.add n_).block,(A_.add n_).off + 2,none⟩) = some (.int .i64 a0_2)) (hq3 : w.cell? (⟨(A_.add n_).block,(A_.add n_).off + 3,none⟩) = some (.int .i64 a0_3)) (hq4 : w.cell? (⟨(A_.add n_).block,(A_.add n_).off + 4,none⟩) = some (.int .i64 a0_4)) (hq5 : w.cell? (⟨(A_.add n_).block,(A_.add n_).off + 5,none⟩) = some (.int .i64 a0_5)) (hq6 : w.cell? (⟨(A_.add n_).block,(A_.add n_).off + 6,none⟩) = some (.int .i64 a0_6)) (hq7 : w.cell? (⟨(A_.add n_).block,(A_.add n_).off + 7,none⟩) = some (.int .i64 a0_7)) (hq8 : w.cell? (⟨(A_.add n_).block,(A_.add n_).off + 8,none⟩) = some (.int .i64 a0_8)) (h : impl_Flow_endsOKAt.f a0_0 a0_1 a0_2 a0_3 a0_4 a0_5 a0_6 a0_7 a0_8 = some r) :
  Calls Try.prog 77 #[.pointer (some (A_.add n_))] w fun e w' => e = .returned (.bool r) ∧ Below w.heap.size w w':=by
 refine (impl_Flow_endsOKAt.calls0 A_ n_ a0_0 a0_1 a0_2 a0_3 a0_4 a0_5 a0_6 a0_7 a0_8 r w hq0 hq1 hq2 hq3 hq4 hq5 hq6 hq7 hq8 h).mono fun e w' hh => ⟨hh.1,?_⟩
 obtain ⟨nd,hq⟩:=hh.2
 rw [hq]
 exact bwN (Below.refl _ _) nd
theorem impl_Flow_endsOKAt.callsB (g : Nat) (a0_0 : Int) (a0_1 : ByteArray) (a0_2 : Int) (a0_3 : Int) (a0_4 : Int) (a0_5 : Int) (a0_6 : Int) (a0_7 : Int) (a0_8 : Int) (r : Bool) (w : World) (hq0 : w.cell? ⟨g,0,none⟩ = some (.int .i64 a0_0)) (hq1 : w.cell? (⟨g,1,none⟩) = some (.string a0_1)) (hq2 : w.cell? (⟨g,2,none⟩) = some (.int .i64 a0_2)) (hq3 : w.cell? (⟨g,3,none⟩) = some (.int .i64 a0_3)) (hq4 : w.cell? (⟨g,4,none⟩) = some (.int .i64 a0_4)) (hq5 : w.cell? (⟨g,5,none⟩) = some (.int .i64 a0_5)) (hq6 : w.cell? (⟨g,6,none⟩) = some (.int .i64 a0_6)) (hq7 : w.cell? (⟨g,7,none⟩) = some (.int .i64 a0_7)) (hq8 : w.cell? (⟨g,8,none⟩) = some (.int .i64 a0_8)) (h : impl_Flow_endsOKAt.f a0_0 a0_1 a0_2 a0_3 a0_4 a0_5 a0_6 a0_7 a0_8 = some r) :
  Calls Try.prog 77 #[.pointer (some ⟨g,0,none⟩)] w fun e w' => e = .returned (.bool r) ∧ Below w.heap.size w w':=by
 have h_:=impl_Flow_endsOKAt.calls ⟨g,0,none⟩ 0 a0_0 a0_1 a0_2 a0_3 a0_4 a0_5 a0_6 a0_7 a0_8 r w hq0 hq1 hq2 hq3 hq4 hq5 hq6 hq7 hq8 h
 exact h_
end
section
/-! ### impl_Flow_107: function 107 -/
def idxP71 (p : S71 → Option Bool) (l : List S71) : Nat → Int → Option Int
 | 0,_ => none
 | k + 1,i => if i < (l.length : Int) then (if 0 ≤ i then ((p (rd_T71 l i)).bind fun t => (if t = true then some i else idxP71 p l k (wrap64 (i + 1)))) else none) else some (-1)
theorem idxP71_mono (p q : S71 → Option Bool) (hpq : ∀ x,LeO (p x) (q x)) (l : List S71) : ∀ k i,LeO (idxP71 p l k i) (idxP71 q l (k + 1) i)
 | 0,i => fun r h => by simp [idxP71] at h
 | k + 1,i => by
  have ih:=idxP71_mono p q hpq l k
  rw [idxP71,idxP71]
  refine LeO.ite (LeO.ite (LeO.bind (hpq _) (fun t => LeO.ite (LeO.refl _) (ih _))) (LeO.refl _)) (LeO.refl _)
set_option maxHeartbeats 8000000 in
set_option maxRecDepth 100000 in
theorem indexFunc71 (g : FuncId) (lb : Array Value) (eg : ∀ args w,(callFunc g args).run Try.prog w = .ok (.enter g args) w) (p : S71 → Option Bool) (k : Nat) (A0 : Option Addr) (c0 : Nat) (l0 : List S71) (r : Int) (w : World)
  (hp : ∀ (W : World) (x : S71) (b : Bool),Below w.heap.size w W → p x = some b → Calls Try.prog g (#[.agg #[.int .i64 x.f0,.string x.f1,.int .i64 x.f2,.int .i64 x.f3,.int .i64 x.f4,.int .i64 x.f5,.int .i64 x.f6,.int .i64 x.f7,.int .i64 x.f8]] ++ lb) W fun e w' => e = .returned (.bool b) ∧ Below w.heap.size w w')
  (hr0 : Kd.C k71 w A0 l0.length l0) (h : idxP71 p l0 k 0 = some r) :
  Calls Try.prog 107 #[.slice A0 l0.length c0,.func (.func g) #[] lb] w fun e w' => e = .returned (.int .i64 r) ∧ Below w.heap.size w w':=by
 have hu71:=Try.underlying71
 have HR0:=aMk hr0
 have HP:=aMk hp
 clear hr0 hp
 have HB:=aMk (Below.refl w.heap.size w)
 have H':=aMk h
 clear h
 go_enter Try.func107,Try.ntmps107
 go_wp2
 go_loopg [5,8] k (fun kq _ v8 w' => ∃ (x : Int),v8 = .int .i64 x ∧ Aside0 (idxP71 p l0 kq x = some r) ∧ Aside0 (kq ≤ k) ∧ Aside0 (Below w.heap.size w w'))
 case atStart => exact ⟨0,rfl,H',⟨Nat.le_refl _⟩,HB⟩
 case round =>
  clear H'
  obtain ⟨x,rfl,HA,HK1,HB⟩:=hrel
  cases gk with
  | zero => exact absurd HA.out (by simp [idxP71])
  | succ k1 =>
   have H:=HA.out
   clear HA
   simp only [idxP71] at H
   by_cases c2 : x < (l0.length : Int)
   ·rw [if_pos c2] at H
    have c2b0 : decide (x < (l0.length : Int)) = true:=decide_eq_true c2
    clear c2
    by_cases c3 : 0 ≤ x
    ·rw [if_pos c3] at H
     have c3b0 : decide (0 ≤ x) = true:=decide_eq_true c3
     clear c3
     replace H:=Option.bind_eq_some_iff.mp H
     obtain ⟨t,A40,H⟩:=H
     have p179 : 0 ≤ (x : Int):=of_decide_eq_true (by first|(with_reducible assumption) | assumption)
     have q179 : x < (l0.length : Int):=of_decide_eq_true (by first|(with_reducible assumption) | assumption)
     obtain ⟨ad179,e179,hx0,hx1,hx2,hx3,hx4,hx5,hx6,hx7,hx8⟩:=at_T71 HR0.out x p179 q179
     cases e179
     replace hx0:=(HB.out.cell (wLt w _ hx0)).trans hx0
     replace hx1:=(HB.out.cell (wLt w _ hx1)).trans hx1
     replace hx2:=(HB.out.cell (wLt w _ hx2)).trans hx2
     replace hx3:=(HB.out.cell (wLt w _ hx3)).trans hx3
     replace hx4:=(HB.out.cell (wLt w _ hx4)).trans hx4
     replace hx5:=(HB.out.cell (wLt w _ hx5)).trans hx5
     replace hx6:=(HB.out.cell (wLt w _ hx6)).trans hx6
     replace hx7:=(HB.out.cell (wLt w _ hx7)).trans hx7
     replace hx8:=(HB.out.cell (wLt w _ hx8)).trans hx8
     replace p179:=eq_true p179
     replace q179:=eq_true q179
     have HC:=aMk (HP.out _ _ _ HB.out A40)
     clear A40
     cases t
     ·have H1 : idxP71 p l0 k1 (wrap64 (x + 1)) = some r:=by simpa using H
      clear H
      have H':=aMk H1
      clear H1
      go_wp2_with (refine HC.out.mono ?_;rintro e w6 ⟨rfl,hb⟩;clear HB;have HB:=aMk hb;clear hb)
      go_roundg k1
      case measure => have:=HK1.out;omega
      case rel => exact ⟨_,rfl,H',⟨by have:=HK1.out;omega⟩,HB⟩
     ·obtain rfl : x = r:=by simpa using H
      clear H
      go_wp2_with (refine HC.out.mono ?_;rintro e w6 ⟨rfl,hb⟩;clear HB;have HB:=aMk hb;clear hb)
      go_ret
      exact ⟨rfl,HB.out⟩
    ·rw [if_neg c3] at H
     exact absurd H (by simp)
   ·rw [if_neg c2] at H
    have c2b0 : decide (x < (l0.length : Int)) = false:=decide_eq_false c2
    clear c2
    obtain rfl:=Option.some.inj H
    go_wp2
    go_ret
    exact ⟨by first | rfl|(simp [errW_none,errW_some] <;> rfl)|(simp [*,errW_none,errW_some] <;> rfl),HB.out⟩
end
section
/-- A state of type 71 at block g of W;what its slices lead to came in by w0. -/
def IsS71 (w0 W : World) (g : Nat) (f0 : Int) (f1 : ByteArray) (f2 : Int) (f3 : Int) (f4 : Int) (f5 : Int) (f6 : Int) (f7 : Int) (f8 : Int) : Prop:=W.heap[g]? = some (.cells #[.int .i64 f0,.string f1,.int .i64 f2,.int .i64 f3,.int .i64 f4,.int .i64 f5,.int .i64 f6,.int .i64 f7,.int .i64 f8] 71 (0,0)) ∧ w0.heap.size ≤ g
theorem IsS71.grown {w0 W : World} {g : Nat} {f0 : Int} {f1 : ByteArray} {f2 : Int} {f3 : Int} {f4 : Int} {f5 : Int} {f6 : Int} {f7 : Int} {f8 : Int} {W1 : World} {row : Option Nat} (h : IsS71 w0 W g f0 f1 f2 f3 f4 f5 f6 f7 f8) (hw : W.grownBy W1 row) (hne : some g ≠ row) : IsS71 w0 W1 g f0 f1 f2 f3 f4 f5 f6 f7 f8:=by
 obtain ⟨hb,hg⟩:=h
 exact ⟨blk_grown hb hw hne,hg⟩
theorem IsS71.kept {w0 W : World} {g : Nat} {f0 : Int} {f1 : ByteArray} {f2 : Int} {f3 : Int} {f4 : Int} {f5 : Int} {f6 : Int} {f7 : Int} {f8 : Int} {W1 : World} {S : Nat → Prop} (h : IsS71 w0 W g f0 f1 f2 f3 f4 f5 f6 f7 f8) (hk : Kept W W1 S) (hne : ¬ S g) : IsS71 w0 W1 g f0 f1 f2 f3 f4 f5 f6 f7 f8:=by
 obtain ⟨hb,hg⟩:=h
 exact ⟨blk_kept hb hk hne,hg⟩
theorem IsS71.below {w0 W : World} {g : Nat} {f0 : Int} {f1 : ByteArray} {f2 : Int} {f3 : Int} {f4 : Int} {f5 : Int} {f6 : Int} {f7 : Int} {f8 : Int} {W1 : World} (h : IsS71 w0 W g f0 f1 f2 f3 f4 f5 f6 f7 f8) (hw : Below W.heap.size W W1) : IsS71 w0 W1 g f0 f1 f2 f3 f4 f5 f6 f7 f8:=h.grown (grown_of_below hw none) (by simp)
theorem IsS71.alloc {w0 W : World} {g : Nat} {f0 : Int} {f1 : ByteArray} {f2 : Int} {f3 : Int} {f4 : Int} {f5 : Int} {f6 : Int} {f7 : Int} {f8 : Int} (h : IsS71 w0 W g f0 f1 f2 f3 f4 f5 f6 f7 f8) (o : Obj) : IsS71 w0 (W.alloc o) g f0 f1 f2 f3 f4 f5 f6 f7 f8:=h.below (bwA (Below.refl _ _) o)
theorem IsS71.drewN {w0 W : World} {g : Nat} {f0 : Int} {f1 : ByteArray} {f2 : Int} {f3 : Int} {f4 : Int} {f5 : Int} {f6 : Int} {f7 : Int} {f8 : Int} (h : IsS71 w0 W g f0 f1 f2 f3 f4 f5 f6 f7 f8) (m : Nat) : IsS71 w0 (W.drewN m) g f0 f1 f2 f3 f4 f5 f6 f7 f8:=h
theorem IsS71.drew {w0 W : World} {g : Nat} {f0 : Int} {f1 : ByteArray} {f2 : Int} {f3 : Int} {f4 : Int} {f5 : Int} {f6 : Int} {f7 : Int} {f8 : Int} (h : IsS71 w0 W g f0 f1 f2 f3 f4 f5 f6 f7 f8) : IsS71 w0 W.drew g f0 f1 f2 f3 f4 f5 f6 f7 f8:=h
theorem IsS71.at_ {w0 W : World} {g : Nat} {f0 : Int} {f1 : ByteArray} {f2 : Int} {f3 : Int} {f4 : Int} {f5 : Int} {f6 : Int} {f7 : Int} {f8 : Int} {w' : World} {m : Nat} (hq : W.drewN m = w') (h : IsS71 w0 W g f0 f1 f2 f3 f4 f5 f6 f7 f8) : IsS71 w0 w' g f0 f1 f2 f3 f4 f5 f6 f7 f8:=by subst hq;exact IsS71.drewN h m
theorem IsS71.apart {w0 W : World} {g : Nat} {f0 : Int} {f1 : ByteArray} {f2 : Int} {f3 : Int} {f4 : Int} {f5 : Int} {f6 : Int} {f7 : Int} {f8 : Int} {α : Type} {d : Kd α} {e : Nat} {base : Nat} {ok : Nat → Prop} {v : Value} {xs : List α} (h : IsS71 w0 W g f0 f1 f2 f3 f4 f5 f6 f7 f8) (ho : d.R e W base ok v xs) (ht : ∀ q,q ∈ e :: d.E → q ≠ 71) : d.R e W base (fun k => ok k ∧ k ≠ g) v xs:=by
 obtain ⟨hb,hg⟩:=h
 exact Kd.R_types ho hb ht
theorem IsS71.own_ne {w0 W : World} {g : Nat} {f0 : Int} {f1 : ByteArray} {f2 : Int} {f3 : Int} {f4 : Int} {f5 : Int} {f6 : Int} {f7 : Int} {f8 : Int} {α : Type} {d : Kd α} {e : Nat} {base : Nat} {ok : Nat → Prop} {v : Value} {xs : List α} (h : IsS71 w0 W g f0 f1 f2 f3 f4 f5 f6 f7 f8) (ho : d.R e W base ok v xs) (ht : e ≠ 71) : some g ≠ v.ownBlock:=by
 obtain ⟨hb,hg⟩:=h
 exact Kd.R_ne ho hb ht
theorem IsS71.ge {w0 W : World} {g : Nat} {f0 : Int} {f1 : ByteArray} {f2 : Int} {f3 : Int} {f4 : Int} {f5 : Int} {f6 : Int} {f7 : Int} {f8 : Int} (h : IsS71 w0 W g f0 f1 f2 f3 f4 f5 f6 f7 f8) : w0.heap.size ≤ g:=by
 obtain ⟨hb,hg⟩:=h
 exact hg
theorem IsS71.far {w0 W : World} {g : Nat} {f0 : Int} {f1 : ByteArray} {f2 : Int} {f3 : Int} {f4 : Int} {f5 : Int} {f6 : Int} {f7 : Int} {f8 : Int} {p : Addr} (h : IsS71 w0 W g f0 f1 f2 f3 f4 f5 f6 f7 f8) (hne : g ≠ p.block) (u : Value) : IsS71 w0 (W.setCell p u) g f0 f1 f2 f3 f4 f5 f6 f7 f8:=by
 obtain ⟨hb,hg⟩:=h
 exact ⟨blk_far hb hne u,hg⟩
theorem cellS71_0 {W : World} {g : Nat} {f0 : Int} {f1 : ByteArray} {f2 : Int} {f3 : Int} {f4 : Int} {f5 : Int} {f6 : Int} {f7 : Int} {f8 : Int} (h : W.heap[g]? = some (.cells #[.int .i64 f0,.string f1,.int .i64 f2,.int .i64 f3,.int .i64 f4,.int .i64 f5,.int .i64 f6,.int .i64 f7,.int .i64 f8] 71 (0,0))) : W.cell? ⟨g,0,none⟩ = some (.int .i64 f0):=(bCe h 0).trans rfl
theorem IsS71.set_0 {w0 W : World} {g : Nat} {f0 : Int} {f1 : ByteArray} {f2 : Int} {f3 : Int} {f4 : Int} {f5 : Int} {f6 : Int} {f7 : Int} {f8 : Int} (h : IsS71 w0 W g f0 f1 f2 f3 f4 f5 f6 f7 f8) (x : Int) : IsS71 w0 (W.setCell ⟨g,0,none⟩ (.int .i64 x)) g x f1 f2 f3 f4 f5 f6 f7 f8:=by
 obtain ⟨hb,hg⟩:=h
 exact ⟨by simpa using blk_set hb 0 (.int .i64 x),hg⟩
theorem cellS71_1 {W : World} {g : Nat} {f0 : Int} {f1 : ByteArray} {f2 : Int} {f3 : Int} {f4 : Int} {f5 : Int} {f6 : Int} {f7 : Int} {f8 : Int} (h : W.heap[g]? = some (.cells #[.int .i64 f0,.string f1,.int .i64 f2,.int .i64 f3,.int .i64 f4,.int .i64 f5,.int .i64 f6,.int .i64 f7,.int .i64 f8] 71 (0,0))) : W.cell? ⟨g,1,none⟩ = some (.string f1):=(bCe h 1).trans rfl
theorem IsS71.set_1 {w0 W : World} {g : Nat} {f0 : Int} {f1 : ByteArray} {f2 : Int} {f3 : Int} {f4 : Int} {f5 : Int} {f6 : Int} {f7 : Int} {f8 : Int} (h : IsS71 w0 W g f0 f1 f2 f3 f4 f5 f6 f7 f8) (x : ByteArray) : IsS71 w0 (W.setCell ⟨g,1,none⟩ (.string x)) g f0 x f2 f3 f4 f5 f6 f7 f8:=by
 obtain ⟨hb,hg⟩:=h
 exact ⟨by simpa using blk_set hb 1 (.string x),hg⟩
theorem cellS71_2 {W : World} {g : Nat} {f0 : Int} {f1 : ByteArray} {f2 : Int} {f3 : Int} {f4 : Int} {f5 : Int} {f6 : Int} {f7 : Int} {f8 : Int} (h : W.heap[g]? = some (.cells #[.int .i64 f0,.string f1,.int .i64 f2,.int .i64 f3,.int .i64 f4,.int .i64 f5,.int .i64 f6,.int .i64 f7,.int .i64 f8] 71 (0,0))) : W.cell? ⟨g,2,none⟩ = some (.int .i64 f2):=(bCe h 2).trans rfl
theorem IsS71.set_2 {w0 W : World} {g : Nat} {f0 : Int} {f1 : ByteArray} {f2 : Int} {f3 : Int} {f4 : Int} {f5 : Int} {f6 : Int} {f7 : Int} {f8 : Int} (h : IsS71 w0 W g f0 f1 f2 f3 f4 f5 f6 f7 f8) (x : Int) : IsS71 w0 (W.setCell ⟨g,2,none⟩ (.int .i64 x)) g f0 f1 x f3 f4 f5 f6 f7 f8:=by
 obtain ⟨hb,hg⟩:=h
 exact ⟨by simpa using blk_set hb 2 (.int .i64 x),hg⟩
theorem cellS71_3 {W : World} {g : Nat} {f0 : Int} {f1 : ByteArray} {f2 : Int} {f3 : Int} {f4 : Int} {f5 : Int} {f6 : Int} {f7 : Int} {f8 : Int} (h : W.heap[g]? = some (.cells #[.int .i64 f0,.string f1,.int .i64 f2,.int .i64 f3,.int .i64 f4,.int .i64 f5,.int .i64 f6,.int .i64 f7,.int .i64 f8] 71 (0,0))) : W.cell? ⟨g,3,none⟩ = some (.int .i64 f3):=(bCe h 3).trans rfl
theorem IsS71.set_3 {w0 W : World} {g : Nat} {f0 : Int} {f1 : ByteArray} {f2 : Int} {f3 : Int} {f4 : Int} {f5 : Int} {f6 : Int} {f7 : Int} {f8 : Int} (h : IsS71 w0 W g f0 f1 f2 f3 f4 f5 f6 f7 f8) (x : Int) : IsS71 w0 (W.setCell ⟨g,3,none⟩ (.int .i64 x)) g f0 f1 f2 x f4 f5 f6 f7 f8:=by
 obtain ⟨hb,hg⟩:=h
 exact ⟨by simpa using blk_set hb 3 (.int .i64 x),hg⟩
theorem cellS71_4 {W : World} {g : Nat} {f0 : Int} {f1 : ByteArray} {f2 : Int} {f3 : Int} {f4 : Int} {f5 : Int} {f6 : Int} {f7 : Int} {f8 : Int} (h : W.heap[g]? = some (.cells #[.int .i64 f0,.string f1,.int .i64 f2,.int .i64 f3,.int .i64 f4,.int .i64 f5,.int .i64 f6,.int .i64 f7,.int .i64 f8] 71 (0,0))) : W.cell? ⟨g,4,none⟩ = some (.int .i64 f4):=(bCe h 4).trans rfl
theorem IsS71.set_4 {w0 W : World} {g : Nat} {f0 : Int} {f1 : ByteArray} {f2 : Int} {f3 : Int} {f4 : Int} {f5 : Int} {f6 : Int} {f7 : Int} {f8 : Int} (h : IsS71 w0 W g f0 f1 f2 f3 f4 f5 f6 f7 f8) (x : Int) : IsS71 w0 (W.setCell ⟨g,4,none⟩ (.int .i64 x)) g f0 f1 f2 f3 x f5 f6 f7 f8:=by
 obtain ⟨hb,hg⟩:=h
 exact ⟨by simpa using blk_set hb 4 (.int .i64 x),hg⟩
theorem cellS71_5 {W : World} {g : Nat} {f0 : Int} {f1 : ByteArray} {f2 : Int} {f3 : Int} {f4 : Int} {f5 : Int} {f6 : Int} {f7 : Int} {f8 : Int} (h : W.heap[g]? = some (.cells #[.int .i64 f0,.string f1,.int .i64 f2,.int .i64 f3,.int .i64 f4,.int .i64 f5,.int .i64 f6,.int .i64 f7,.int .i64 f8] 71 (0,0))) : W.cell? ⟨g,5,none⟩ = some (.int .i64 f5):=(bCe h 5).trans rfl
theorem IsS71.set_5 {w0 W : World} {g : Nat} {f0 : Int} {f1 : ByteArray} {f2 : Int} {f3 : Int} {f4 : Int} {f5 : Int} {f6 : Int} {f7 : Int} {f8 : Int} (h : IsS71 w0 W g f0 f1 f2 f3 f4 f5 f6 f7 f8) (x : Int) : IsS71 w0 (W.setCell ⟨g,5,none⟩ (.int .i64 x)) g f0 f1 f2 f3 f4 x f6 f7 f8:=by
 obtain ⟨hb,hg⟩:=h
 exact ⟨by simpa using blk_set hb 5 (.int .i64 x),hg⟩
theorem cellS71_6 {W : World} {g : Nat} {f0 : Int} {f1 : ByteArray} {f2 : Int} {f3 : Int} {f4 : Int} {f5 : Int} {f6 : Int} {f7 : Int} {f8 : Int} (h : W.heap[g]? = some (.cells #[.int .i64 f0,.string f1,.int .i64 f2,.int .i64 f3,.int .i64 f4,.int .i64 f5,.int .i64 f6,.int .i64 f7,.int .i64 f8] 71 (0,0))) : W.cell? ⟨g,6,none⟩ = some (.int .i64 f6):=(bCe h 6).trans rfl
theorem IsS71.set_6 {w0 W : World} {g : Nat} {f0 : Int} {f1 : ByteArray} {f2 : Int} {f3 : Int} {f4 : Int} {f5 : Int} {f6 : Int} {f7 : Int} {f8 : Int} (h : IsS71 w0 W g f0 f1 f2 f3 f4 f5 f6 f7 f8) (x : Int) : IsS71 w0 (W.setCell ⟨g,6,none⟩ (.int .i64 x)) g f0 f1 f2 f3 f4 f5 x f7 f8:=by
 obtain ⟨hb,hg⟩:=h
 exact ⟨by simpa using blk_set hb 6 (.int .i64 x),hg⟩
theorem cellS71_7 {W : World} {g : Nat} {f0 : Int} {f1 : ByteArray} {f2 : Int} {f3 : Int} {f4 : Int} {f5 : Int} {f6 : Int} {f7 : Int} {f8 : Int} (h : W.heap[g]? = some (.cells #[.int .i64 f0,.string f1,.int .i64 f2,.int .i64 f3,.int .i64 f4,.int .i64 f5,.int .i64 f6,.int .i64 f7,.int .i64 f8] 71 (0,0))) : W.cell? ⟨g,7,none⟩ = some (.int .i64 f7):=(bCe h 7).trans rfl
theorem IsS71.set_7 {w0 W : World} {g : Nat} {f0 : Int} {f1 : ByteArray} {f2 : Int} {f3 : Int} {f4 : Int} {f5 : Int} {f6 : Int} {f7 : Int} {f8 : Int} (h : IsS71 w0 W g f0 f1 f2 f3 f4 f5 f6 f7 f8) (x : Int) : IsS71 w0 (W.setCell ⟨g,7,none⟩ (.int .i64 x)) g f0 f1 f2 f3 f4 f5 f6 x f8:=by
 obtain ⟨hb,hg⟩:=h
 exact ⟨by simpa using blk_set hb 7 (.int .i64 x),hg⟩
theorem cellS71_8 {W : World} {g : Nat} {f0 : Int} {f1 : ByteArray} {f2 : Int} {f3 : Int} {f4 : Int} {f5 : Int} {f6 : Int} {f7 : Int} {f8 : Int} (h : W.heap[g]? = some (.cells #[.int .i64 f0,.string f1,.int .i64 f2,.int .i64 f3,.int .i64 f4,.int .i64 f5,.int .i64 f6,.int .i64 f7,.int .i64 f8] 71 (0,0))) : W.cell? ⟨g,8,none⟩ = some (.int .i64 f8):=(bCe h 8).trans rfl
theorem IsS71.set_8 {w0 W : World} {g : Nat} {f0 : Int} {f1 : ByteArray} {f2 : Int} {f3 : Int} {f4 : Int} {f5 : Int} {f6 : Int} {f7 : Int} {f8 : Int} (h : IsS71 w0 W g f0 f1 f2 f3 f4 f5 f6 f7 f8) (x : Int) : IsS71 w0 (W.setCell ⟨g,8,none⟩ (.int .i64 x)) g f0 f1 f2 f3 f4 f5 f6 f7 x:=by
 obtain ⟨hb,hg⟩:=h
 exact ⟨by simpa using blk_set hb 8 (.int .i64 x),hg⟩
theorem IsS71.new (w0 W : World) (f0 : Int) (f1 : ByteArray) (f2 : Int) (f3 : Int) (f4 : Int) (f5 : Int) (f6 : Int) (f7 : Int) (f8 : Int) (hB : Below w0.heap.size w0 W) : IsS71 w0 (W.alloc (.cells #[.int .i64 f0,.string f1,.int .i64 f2,.int .i64 f3,.int .i64 f4,.int .i64 f5,.int .i64 f6,.int .i64 f7,.int .i64 f8] 71)) W.heap.size f0 f1 f2 f3 f4 f5 f6 f7 f8:=⟨by simpa using heap_alloc_new W _,hB.size⟩
end
section
/-! ### impl_Flow_is: function 109 -/
def impl_Flow_is.f (s0_0 : Int) (s0_1 : ByteArray) (s0_2 : Int) (s0_3 : Int) (s0_4 : Int) (s0_5 : Int) (s0_6 : Int) (s0_7 : Int) (s0_8 : Int) (a1 : Int) (a2 : Int) (a3 : Int) (a4 : Int) (a5 : Int) : Option (Bool):=if s0_0 = a1 then (if s0_2 = a2 then (if s0_3 = a3 then (if s0_4 = a4 then (some (s0_5 == a5)) else (some false)) else (some false)) else (some false)) else (some false)
set_option maxHeartbeats 8000000 in
set_option maxRecDepth 100000 in
theorem impl_Flow_is.calls (g : Nat) (s0_0 : Int) (s0_1 : ByteArray) (s0_2 : Int) (s0_3 : Int) (s0_4 : Int) (s0_5 : Int) (s0_6 : Int) (s0_7 : Int) (s0_8 : Int) (a1 : Int) (a2 : Int) (a3 : Int) (a4 : Int) (a5 : Int) (r : Bool) (w0 w : World) (hI : IsS71 w0 w g s0_0 s0_1 s0_2 s0_3 s0_4 s0_5 s0_6 s0_7 s0_8) (hB : Below w0.heap.size w0 w) (h : impl_Flow_is.f s0_0 s0_1 s0_2 s0_3 s0_4 s0_5 s0_6 s0_7 s0_8 a1 a2 a3 a4 a5 = some r) :
  Calls Try.prog 109 #[.pointer (some ⟨g,0,none⟩),.int .i64 a1,.int .i64 a2,.int .i64 a3,.int .i64 a4,.int .i64 a5] w fun e w' => e = .returned (.bool r) ∧ IsS71 w0 w' g s0_0 s0_1 s0_2 s0_3 s0_4 s0_5 s0_6 s0_7 s0_8 ∧ Below w0.heap.size w0 w' ∧ KeepBut w w' g none:=by
 have HI0:=aMk hI
 have HK:=aMk (KeepBut.refl w g none)
 have HL:=aMk hB.size
 clear hI
 have HW0:=aMk hB.size
 have HB:=aMk hB
 clear hB
 have H : (if s0_0 = a1 then (if s0_2 = a2 then (if s0_3 = a3 then (if s0_4 = a4 then (some (s0_5 == a5)) else (some false)) else (some false)) else (some false)) else (some false)) = some r:=h
 clear h
 by_cases c7 : s0_0 = a1
 ·rw [if_pos c7] at H
  have c7b0 : (s0_0 == a1) = true:=beq_iff_eq.mpr c7
  have c7b1 : (s0_0 != a1) = false:=bne_eq_false_iff_eq.mpr c7
  clear c7
  by_cases c8 : s0_2 = a2
  ·rw [if_pos c8] at H
   have c8b0 : (s0_2 == a2) = true:=beq_iff_eq.mpr c8
   have c8b1 : (s0_2 != a2) = false:=bne_eq_false_iff_eq.mpr c8
   clear c8
   by_cases c9 : s0_3 = a3
   ·rw [if_pos c9] at H
    have c9b0 : (s0_3 == a3) = true:=beq_iff_eq.mpr c9
    have c9b1 : (s0_3 != a3) = false:=bne_eq_false_iff_eq.mpr c9
    clear c9
    by_cases c10 : s0_4 = a4
    ·rw [if_pos c10] at H
     have c10b0 : (s0_4 == a4) = true:=beq_iff_eq.mpr c10
     have c10b1 : (s0_4 != a4) = false:=bne_eq_false_iff_eq.mpr c10
     clear c10
     obtain rfl:=Option.some.inj H
     obtain ⟨HGz11,hgz11⟩:=HI0.out
     have hcz11_0:=cellS71_0 HGz11
     have hcz11_1:=cellS71_1 HGz11
     have hcz11_2:=cellS71_2 HGz11
     have hcz11_3:=cellS71_3 HGz11
     have hcz11_4:=cellS71_4 HGz11
     have hcz11_5:=cellS71_5 HGz11
     have hcz11_6:=cellS71_6 HGz11
     have hcz11_7:=cellS71_7 HGz11
     have hcz11_8:=cellS71_8 HGz11
     have hfz11_0:=bFr HGz11 0
     have hfz11_1:=bFr HGz11 1
     have hfz11_2:=bFr HGz11 2
     have hfz11_3:=bFr HGz11 3
     have hfz11_4:=bFr HGz11 4
     have hfz11_5:=bFr HGz11 5
     have hfz11_6:=bFr HGz11 6
     have hfz11_7:=bFr HGz11 7
     have hfz11_8:=bFr HGz11 8
     clear HGz11 hgz11
     go_enter Try.func109,Try.ntmps109
     go_wp2
     go_ret
     exact ⟨by first | rfl|(simp [errW_none,errW_some] <;> rfl)|(simp [*,errW_none,errW_some] <;> rfl),by repeat (first|(with_reducible first|exact HI0.out|apply IsS71.alloc|apply IsS71.drewN|apply IsS71.drew|apply IsS71.set_0|apply IsS71.set_1|apply IsS71.set_2|apply IsS71.set_3|apply IsS71.set_4|apply IsS71.set_5|apply IsS71.set_6|apply IsS71.set_7|apply IsS71.set_8)|exact HI0.out),by repeat (first|(with_reducible first|exact HB.out|apply bwA|apply bwN|apply bw1|refine below_set ?_ (IsS71.ge HI0.out))|exact HB.out),by repeat (first|(with_reducible first|exact HK.out|apply KeepBut.set_|apply keep_drewN|apply keep_drew|apply keep_alloc)|exact HK.out)⟩
    ·rw [if_neg c10] at H
     have c10b0 : (s0_4 == a4) = false:=beq_eq_false_iff_ne.mpr c10
     have c10b1 : (s0_4 != a4) = true:=bne_iff_ne.mpr c10
     obtain rfl:=Option.some.inj H
     obtain ⟨HGz12,hgz12⟩:=HI0.out
     have hcz12_0:=cellS71_0 HGz12
     have hcz12_1:=cellS71_1 HGz12
     have hcz12_2:=cellS71_2 HGz12
     have hcz12_3:=cellS71_3 HGz12
     have hcz12_4:=cellS71_4 HGz12
     have hcz12_5:=cellS71_5 HGz12
     have hcz12_6:=cellS71_6 HGz12
     have hcz12_7:=cellS71_7 HGz12
     have hcz12_8:=cellS71_8 HGz12
     have hfz12_0:=bFr HGz12 0
     have hfz12_1:=bFr HGz12 1
     have hfz12_2:=bFr HGz12 2
     have hfz12_3:=bFr HGz12 3
     have hfz12_4:=bFr HGz12 4
     have hfz12_5:=bFr HGz12 5
     have hfz12_6:=bFr HGz12 6
     have hfz12_7:=bFr HGz12 7
     have hfz12_8:=bFr HGz12 8
     clear HGz12 hgz12
     go_enter Try.func109,Try.ntmps109
     go_wp2
     go_ret
     exact ⟨by first | rfl|(simp [errW_none,errW_some] <;> rfl)|(simp [*,errW_none,errW_some] <;> rfl),by repeat (first|(with_reducible first|exact HI0.out|apply IsS71.alloc|apply IsS71.drewN|apply IsS71.drew|apply IsS71.set_0|apply IsS71.set_1|apply IsS71.set_2|apply IsS71.set_3|apply IsS71.set_4|apply IsS71.set_5|apply IsS71.set_6|apply IsS71.set_7|apply IsS71.set_8)|exact HI0.out),by repeat (first|(with_reducible first|exact HB.out|apply bwA|apply bwN|apply bw1|refine below_set ?_ (IsS71.ge HI0.out))|exact HB.out),by repeat (first|(with_reducible first|exact HK.out|apply KeepBut.set_|apply keep_drewN|apply keep_drew|apply keep_alloc)|exact HK.out)⟩
   ·rw [if_neg c9] at H
    have c9b0 : (s0_3 == a3) = false:=beq_eq_false_iff_ne.mpr c9
    have c9b1 : (s0_3 != a3) = true:=bne_iff_ne.mpr c9
    obtain rfl:=Option.some.inj H
    obtain ⟨HGz13,hgz13⟩:=HI0.out
    have hcz13_0:=cellS71_0 HGz13
    have hcz13_1:=cellS71_1 HGz13
    have hcz13_2:=cellS71_2 HGz13
    have hcz13_3:=cellS71_3 HGz13
    have hcz13_4:=cellS71_4 HGz13
    have hcz13_5:=cellS71_5 HGz13
    have hcz13_6:=cellS71_6 HGz13
    have hcz13_7:=cellS71_7 HGz13
    have hcz13_8:=cellS71_8 HGz13
    have hfz13_0:=bFr HGz13 0
    have hfz13_1:=bFr HGz13 1
    have hfz13_2:=bFr HGz13 2
    have hfz13_3:=bFr HGz13 3
    have hfz13_4:=bFr HGz13 4
    have hfz13_5:=bFr HGz13 5
    have hfz13_6:=bFr HGz13 6
    have hfz13_7:=bFr HGz13 7
    have hfz13_8:=bFr HGz13 8
    clear HGz13 hgz13
    go_enter Try.func109,Try.ntmps109
    go_wp2
    go_ret
    exact ⟨by first | rfl|(simp [errW_none,errW_some] <;> rfl)|(simp [*,errW_none,errW_some] <;> rfl),by repeat (first|(with_reducible first|exact HI0.out|apply IsS71.alloc|apply IsS71.drewN|apply IsS71.drew|apply IsS71.set_0|apply IsS71.set_1|apply IsS71.set_2|apply IsS71.set_3|apply IsS71.set_4|apply IsS71.set_5|apply IsS71.set_6|apply IsS71.set_7|apply IsS71.set_8)|exact HI0.out),by repeat (first|(with_reducible first|exact HB.out|apply bwA|apply bwN|apply bw1|refine below_set ?_ (IsS71.ge HI0.out))|exact HB.out),by repeat (first|(with_reducible first|exact HK.out|apply KeepBut.set_|apply keep_drewN|apply keep_drew|apply keep_alloc)|exact HK.out)⟩
  ·rw [if_neg c8] at H
   have c8b0 : (s0_2 == a2) = false:=beq_eq_false_iff_ne.mpr c8
   have c8b1 : (s0_2 != a2) = true:=bne_iff_ne.mpr c8
   obtain rfl:=Option.some.inj H
   obtain ⟨HGz14,hgz14⟩:=HI0.out
   have hcz14_0:=cellS71_0 HGz14
   have hcz14_1:=cellS71_1 HGz14
   have hcz14_2:=cellS71_2 HGz14
   have hcz14_3:=cellS71_3 HGz14
   have hcz14_4:=cellS71_4 HGz14
   have hcz14_5:=cellS71_5 HGz14
   have hcz14_6:=cellS71_6 HGz14
   have hcz14_7:=cellS71_7 HGz14
   have hcz14_8:=cellS71_8 HGz14
   have hfz14_0:=bFr HGz14 0
   have hfz14_1:=bFr HGz14 1
   have hfz14_2:=bFr HGz14 2
   have hfz14_3:=bFr HGz14 3
   have hfz14_4:=bFr HGz14 4
   have hfz14_5:=bFr HGz14 5
   have hfz14_6:=bFr HGz14 6
   have hfz14_7:=bFr HGz14 7
   have hfz14_8:=bFr HGz14 8
   clear HGz14 hgz14
   go_enter Try.func109,Try.ntmps109
   go_wp2
   go_ret
   exact ⟨by first | rfl|(simp [errW_none,errW_some] <;> rfl)|(simp [*,errW_none,errW_some] <;> rfl),by repeat (first|(with_reducible first|exact HI0.out|apply IsS71.alloc|apply IsS71.drewN|apply IsS71.drew|apply IsS71.set_0|apply IsS71.set_1|apply IsS71.set_2|apply IsS71.set_3|apply IsS71.set_4|apply IsS71.set_5|apply IsS71.set_6|apply IsS71.set_7|apply IsS71.set_8)|exact HI0.out),by repeat (first|(with_reducible first|exact HB.out|apply bwA|apply bwN|apply bw1|refine below_set ?_ (IsS71.ge HI0.out))|exact HB.out),by repeat (first|(with_reducible first|exact HK.out|apply KeepBut.set_|apply keep_drewN|apply keep_drew|apply keep_alloc)|exact HK.out)⟩
 ·rw [if_neg c7] at H
  have c7b0 : (s0_0 == a1) = false:=beq_eq_false_iff_ne.mpr c7
  have c7b1 : (s0_0 != a1) = true:=bne_iff_ne.mpr c7
  obtain rfl:=Option.some.inj H
  obtain ⟨HGz15,hgz15⟩:=HI0.out
  have hcz15_0:=cellS71_0 HGz15
  have hcz15_1:=cellS71_1 HGz15
  have hcz15_2:=cellS71_2 HGz15
  have hcz15_3:=cellS71_3 HGz15
  have hcz15_4:=cellS71_4 HGz15
  have hcz15_5:=cellS71_5 HGz15
  have hcz15_6:=cellS71_6 HGz15
  have hcz15_7:=cellS71_7 HGz15
  have hcz15_8:=cellS71_8 HGz15
  have hfz15_0:=bFr HGz15 0
  have hfz15_1:=bFr HGz15 1
  have hfz15_2:=bFr HGz15 2
  have hfz15_3:=bFr HGz15 3
  have hfz15_4:=bFr HGz15 4
  have hfz15_5:=bFr HGz15 5
  have hfz15_6:=bFr HGz15 6
  have hfz15_7:=bFr HGz15 7
  have hfz15_8:=bFr HGz15 8
  clear HGz15 hgz15
  go_enter Try.func109,Try.ntmps109
  go_wp2
  go_ret
  exact ⟨by first | rfl|(simp [errW_none,errW_some] <;> rfl)|(simp [*,errW_none,errW_some] <;> rfl),by repeat (first|(with_reducible first|exact HI0.out|apply IsS71.alloc|apply IsS71.drewN|apply IsS71.drew|apply IsS71.set_0|apply IsS71.set_1|apply IsS71.set_2|apply IsS71.set_3|apply IsS71.set_4|apply IsS71.set_5|apply IsS71.set_6|apply IsS71.set_7|apply IsS71.set_8)|exact HI0.out),by repeat (first|(with_reducible first|exact HB.out|apply bwA|apply bwN|apply bw1|refine below_set ?_ (IsS71.ge HI0.out))|exact HB.out),by repeat (first|(with_reducible first|exact HK.out|apply KeepBut.set_|apply keep_drewN|apply keep_drew|apply keep_alloc)|exact HK.out)⟩
end
section
/-! ### impl_find_1: function 108 -/
def impl_find_1.f (a0_0 : Int) (a0_1 : ByteArray) (a0_2 : Int) (a0_3 : Int) (a0_4 : Int) (a0_5 : Int) (a0_6 : Int) (a0_7 : Int) (a0_8 : Int) (a1 : Int) (a2 : Int) (a3 : Int) (a4 : Int) (a5 : Int) : Option (Bool):=(impl_Flow_is.f a0_0 a0_1 a0_2 a0_3 a0_4 a0_5 a0_6 a0_7 a0_8 a1 a2 a3 a4 a5).bind fun t257 => (some t257)
set_option maxHeartbeats 8000000 in
set_option maxRecDepth 100000 in
theorem impl_find_1.calls (q1 q2 q3 q4 q5 : Nat) (a0_0 : Int) (a0_1 : ByteArray) (a0_2 : Int) (a0_3 : Int) (a0_4 : Int) (a0_5 : Int) (a0_6 : Int) (a0_7 : Int) (a0_8 : Int) (a1 : Int) (a2 : Int) (a3 : Int) (a4 : Int) (a5 : Int) (r : Bool) (w : World) (hq1 : w.cell? ⟨q1,0,none⟩ = some (.int .i64 a1)) (hq2 : w.cell? ⟨q2,0,none⟩ = some (.int .i64 a2)) (hq3 : w.cell? ⟨q3,0,none⟩ = some (.int .i64 a3)) (hq4 : w.cell? ⟨q4,0,none⟩ = some (.int .i64 a4)) (hq5 : w.cell? ⟨q5,0,none⟩ = some (.int .i64 a5)) (h : impl_find_1.f a0_0 a0_1 a0_2 a0_3 a0_4 a0_5 a0_6 a0_7 a0_8 a1 a2 a3 a4 a5 = some r) :
  Calls Try.prog 108 #[.agg #[.int .i64 a0_0,.string a0_1,.int .i64 a0_2,.int .i64 a0_3,.int .i64 a0_4,.int .i64 a0_5,.int .i64 a0_6,.int .i64 a0_7,.int .i64 a0_8],.pointer (some ⟨q1,0,none⟩),.pointer (some ⟨q2,0,none⟩),.pointer (some ⟨q3,0,none⟩),.pointer (some ⟨q4,0,none⟩),.pointer (some ⟨q5,0,none⟩)] w fun e w' => e = .returned (.bool r) ∧ Below w.heap.size w w':=by
 have HQ1:=aMk hq1
 clear hq1
 have HQ2:=aMk hq2
 clear hq2
 have HQ3:=aMk hq3
 clear hq3
 have HQ4:=aMk hq4
 clear hq4
 have HQ5:=aMk hq5
 clear hq5
 have hu71:=Try.underlying71
 have HB:=aMk (Below.refl w.heap.size w)
 have H : ((impl_Flow_is.f a0_0 a0_1 a0_2 a0_3 a0_4 a0_5 a0_6 a0_7 a0_8 a1 a2 a3 a4 a5).bind fun t257 => (some t257)) = some r:=h
 clear h
 replace H:=Option.bind_eq_some_iff.mp H
 obtain ⟨t257,A70,H⟩:=H
 replace H : (some t257) = some r:=H
 have A7:=aMk A70
 clear A70
 obtain rfl:=Option.some.inj H
 have hcq1:=HQ1.out
 have hcq2:=HQ2.out
 have hcq3:=HQ3.out
 have hcq4:=HQ4.out
 have hcq5:=HQ5.out
 go_enter Try.func108,Try.ntmps108
 go_wp2_with (first|((with_reducible refine gate_dst (N:=6) rfl ?_);refine box_event ?hg (N:=6) ?hd (cs:=#[.int .i64 a0_0,.string a0_1,.int .i64 a0_2,.int .i64 a0_3,.int .i64 a0_4,.int .i64 a0_5,.int .i64 a0_6,.int .i64 a0_7,.int .i64 a0_8]) (t:=71) ?hr ?_;(case hd => rfl);(case hg => rfl);(case hr => first|(go_simp;done)|(go_simp;rfl));intro gb256 hg w8 hbox hb;have n0_:=aMk (below_step (by repeat first|exact HB.out|apply bwA|apply bwN|apply bw1) hb);have n1_:=aMk ((show IsS71 w w8 gb256 a0_0 a0_1 a0_2 a0_3 a0_4 a0_5 a0_6 a0_7 a0_8 from ⟨hbox,(by rw [hg];exact (below_size (by repeat first|exact HB.out|apply bwA|apply bwN|apply bw1)) : w.heap.size ≤ gb256)⟩));clear HB;have HB:=n0_;have hcq1:=(HB.out.cell (wLt w _ HQ1.out)).trans HQ1.out;have hcq2:=(HB.out.cell (wLt w _ HQ2.out)).trans HQ2.out;have hcq3:=(HB.out.cell (wLt w _ HQ3.out)).trans HQ3.out;have hcq4:=(HB.out.cell (wLt w _ HQ4.out)).trans HQ4.out;have hcq5:=(HB.out.cell (wLt w _ HQ5.out)).trans HQ5.out;have HI256:=n1_;clear n0_ n1_;clear hb hbox hg)|((with_reducible refine gate_callee (f:=109) rfl ?_);refine goesL_ (some 13) rfl rfl Try.func109 (by kernel_rfl) rfl #[.pointer (some ⟨gb256,0,none⟩),.int .i64 a1,.int .i64 a2,.int .i64 a3,.int .i64 a4,.int .i64 a5] rfl (by (try simp only [List.map_toArray,List.map_cons,List.map_nil]);first | done | rfl|(simp only [List.length_drop,List.length_take];rfl)) ?_;(with_reducible refine (impl_Flow_is.calls gb256 a0_0 a0_1 a0_2 a0_3 a0_4 a0_5 a0_6 a0_7 a0_8 a1 a2 a3 a4 a5 t257 w _ ?side1 ?side2 A7.out).mono ?_);(case side1 => repeat (first|(with_reducible first|exact HI256.out|apply IsS71.alloc|apply IsS71.drewN|apply IsS71.drew|apply IsS71.set_0|apply IsS71.set_1|apply IsS71.set_2|apply IsS71.set_3|apply IsS71.set_4|apply IsS71.set_5|apply IsS71.set_6|apply IsS71.set_7|apply IsS71.set_8)|exact HI256.out));(case side2 => repeat (first|(with_reducible first|exact HB.out|apply bwA|apply bwN|apply bw1|refine below_set ?_ (IsS71.ge HI256.out))|exact HB.out));rintro e w9 ⟨rfl,hi,hb,hk⟩;refine ⟨_,rfl,?_⟩;have n0_:=aMk (hb);have n1_:=aMk (hi);clear HB;clear HI256;have HB:=n0_;have hcq1:=(HB.out.cell (wLt w _ HQ1.out)).trans HQ1.out;have hcq2:=(HB.out.cell (wLt w _ HQ2.out)).trans HQ2.out;have hcq3:=(HB.out.cell (wLt w _ HQ3.out)).trans HQ3.out;have hcq4:=(HB.out.cell (wLt w _ HQ4.out)).trans HQ4.out;have hcq5:=(HB.out.cell (wLt w _ HQ5.out)).trans HQ5.out;have HI256:=n1_;clear n0_ n1_;(try clear hb);(try clear hb2);(try clear hk);(try clear hi)))
 go_ret
 exact ⟨by first | rfl|(simp [errW_none,errW_some] <;> rfl)|(simp [*,errW_none,errW_some] <;> rfl),by repeat (first|(with_reducible first|exact HB.out|apply bwA|apply bwN|apply bw1|refine below_set ?_ (IsS71.ge HI256.out))|exact HB.out)⟩
end
section
/-! ### impl_find_2: function 110 -/
def impl_find_2.f (a0_0 : Int) (a0_1 : ByteArray) (a0_2 : Int) (a0_3 : Int) (a0_4 : Int) (a0_5 : Int) (a0_6 : Int) (a0_7 : Int) (a0_8 : Int) (a1 : Int) (a2 : Int) (a3 : Int) (a4 : Int) (a5 : Int) : Option (Bool):=(impl_Flow_is.f a0_0 a0_1 a0_2 a0_3 a0_4 a0_5 a0_6 a0_7 a0_8 a1 a2 a3 a4 a5).bind fun t259 => (some t259)
set_option maxHeartbeats 8000000 in
set_option maxRecDepth 100000 in
theorem impl_find_2.calls (q1 q2 q3 q4 q5 : Nat) (a0_0 : Int) (a0_1 : ByteArray) (a0_2 : Int) (a0_3 : Int) (a0_4 : Int) (a0_5 : Int) (a0_6 : Int) (a0_7 : Int) (a0_8 : Int) (a1 : Int) (a2 : Int) (a3 : Int) (a4 : Int) (a5 : Int) (r : Bool) (w : World) (hq1 : w.cell? ⟨q1,0,none⟩ = some (.int .i64 a1)) (hq2 : w.cell? ⟨q2,0,none⟩ = some (.int .i64 a2)) (hq3 : w.cell? ⟨q3,0,none⟩ = some (.int .i64 a3)) (hq4 : w.cell? ⟨q4,0,none⟩ = some (.int .i64 a4)) (hq5 : w.cell? ⟨q5,0,none⟩ = some (.int .i64 a5)) (h : impl_find_2.f a0_0 a0_1 a0_2 a0_3 a0_4 a0_5 a0_6 a0_7 a0_8 a1 a2 a3 a4 a5 = some r) :
  Calls Try.prog 110 #[.agg #[.int .i64 a0_0,.string a0_1,.int .i64 a0_2,.int .i64 a0_3,.int .i64 a0_4,.int .i64 a0_5,.int .i64 a0_6,.int .i64 a0_7,.int .i64 a0_8],.pointer (some ⟨q1,0,none⟩),.pointer (some ⟨q2,0,none⟩),.pointer (some ⟨q3,0,none⟩),.pointer (some ⟨q4,0,none⟩),.pointer (some ⟨q5,0,none⟩)] w fun e w' => e = .returned (.bool r) ∧ Below w.heap.size w w':=by
 have HQ1:=aMk hq1
 clear hq1
 have HQ2:=aMk hq2
 clear hq2
 have HQ3:=aMk hq3
 clear hq3
 have HQ4:=aMk hq4
 clear hq4
 have HQ5:=aMk hq5
 clear hq5
 have hu71:=Try.underlying71
 have HB:=aMk (Below.refl w.heap.size w)
 have H : ((impl_Flow_is.f a0_0 a0_1 a0_2 a0_3 a0_4 a0_5 a0_6 a0_7 a0_8 a1 a2 a3 a4 a5).bind fun t259 => (some t259)) = some r:=h
 clear h
 replace H:=Option.bind_eq_some_iff.mp H
 obtain ⟨t259,A70,H⟩:=H
 replace H : (some t259) = some r:=H
 have A7:=aMk A70
 clear A70
 obtain rfl:=Option.some.inj H
 have hcq1:=HQ1.out
 have hcq2:=HQ2.out
 have hcq3:=HQ3.out
 have hcq4:=HQ4.out
 have hcq5:=HQ5.out
 go_enter Try.func110,Try.ntmps110
 go_wp2_with (first|((with_reducible refine gate_dst (N:=6) rfl ?_);refine box_event ?hg (N:=6) ?hd (cs:=#[.int .i64 a0_0,.string a0_1,.int .i64 a0_2,.int .i64 a0_3,.int .i64 a0_4,.int .i64 a0_5,.int .i64 a0_6,.int .i64 a0_7,.int .i64 a0_8]) (t:=71) ?hr ?_;(case hd => rfl);(case hg => rfl);(case hr => first|(go_simp;done)|(go_simp;rfl));intro gb258 hg w8 hbox hb;have n0_:=aMk (below_step (by repeat first|exact HB.out|apply bwA|apply bwN|apply bw1) hb);have n1_:=aMk ((show IsS71 w w8 gb258 a0_0 a0_1 a0_2 a0_3 a0_4 a0_5 a0_6 a0_7 a0_8 from ⟨hbox,(by rw [hg];exact (below_size (by repeat first|exact HB.out|apply bwA|apply bwN|apply bw1)) : w.heap.size ≤ gb258)⟩));clear HB;have HB:=n0_;have hcq1:=(HB.out.cell (wLt w _ HQ1.out)).trans HQ1.out;have hcq2:=(HB.out.cell (wLt w _ HQ2.out)).trans HQ2.out;have hcq3:=(HB.out.cell (wLt w _ HQ3.out)).trans HQ3.out;have hcq4:=(HB.out.cell (wLt w _ HQ4.out)).trans HQ4.out;have hcq5:=(HB.out.cell (wLt w _ HQ5.out)).trans HQ5.out;have HI258:=n1_;clear n0_ n1_;clear hb hbox hg)|((with_reducible refine gate_callee (f:=109) rfl ?_);refine goesL_ (some 13) rfl rfl Try.func109 (by kernel_rfl) rfl #[.pointer (some ⟨gb258,0,none⟩),.int .i64 a1,.int .i64 a2,.int .i64 a3,.int .i64 a4,.int .i64 a5] rfl (by (try simp only [List.map_toArray,List.map_cons,List.map_nil]);first | done | rfl|(simp only [List.length_drop,List.length_take];rfl)) ?_;(with_reducible refine (impl_Flow_is.calls gb258 a0_0 a0_1 a0_2 a0_3 a0_4 a0_5 a0_6 a0_7 a0_8 a1 a2 a3 a4 a5 t259 w _ ?side1 ?side2 A7.out).mono ?_);(case side1 => repeat (first|(with_reducible first|exact HI258.out|apply IsS71.alloc|apply IsS71.drewN|apply IsS71.drew|apply IsS71.set_0|apply IsS71.set_1|apply IsS71.set_2|apply IsS71.set_3|apply IsS71.set_4|apply IsS71.set_5|apply IsS71.set_6|apply IsS71.set_7|apply IsS71.set_8)|exact HI258.out));(case side2 => repeat (first|(with_reducible first|exact HB.out|apply bwA|apply bwN|apply bw1|refine below_set ?_ (IsS71.ge HI258.out))|exact HB.out));rintro e w9 ⟨rfl,hi,hb,hk⟩;refine ⟨_,rfl,?_⟩;have n0_:=aMk (hb);have n1_:=aMk (hi);clear HB;clear HI258;have HB:=n0_;have hcq1:=(HB.out.cell (wLt w _ HQ1.out)).trans HQ1.out;have hcq2:=(HB.out.cell (wLt w _ HQ2.out)).trans HQ2.out;have hcq3:=(HB.out.cell (wLt w _ HQ3.out)).trans HQ3.out;have hcq4:=(HB.out.cell (wLt w _ HQ4.out)).trans HQ4.out;have hcq5:=(HB.out.cell (wLt w _ HQ5.out)).trans HQ5.out;have HI258:=n1_;clear n0_ n1_;(try clear hb);(try clear hb2);(try clear hk);(try clear hi)))
 go_ret
 exact ⟨by first | rfl|(simp [errW_none,errW_some] <;> rfl)|(simp [*,errW_none,errW_some] <;> rfl),by repeat (first|(with_reducible first|exact HB.out|apply bwA|apply bwN|apply bw1|refine below_set ?_ (IsS71.ge HI258.out))|exact HB.out)⟩
end
section
/-! ### impl_find: function 78 -/
-- USES 108 110 107
def impl_find.f (k : Nat) (l0 : List S71) (a1 : Int) (a2 : Int) (a3 : Int) (a4 : Int) (a5 : Int) : Option (Int × Bool):=(idxP71 (fun x => impl_find_1.f x.f0 x.f1 x.f2 x.f3 x.f4 x.f5 x.f6 x.f7 x.f8 a1 a2 a3 a4 a5) l0 k 0).bind fun t => if t ≥ 0 then some (t,false) else (idxP71 (fun x => impl_find_2.f x.f0 x.f1 x.f2 x.f3 x.f4 x.f5 x.f6 x.f7 x.f8 a1 a4 a5 a2 a3) l0 k 0).bind fun u => some (u,decide (u ≥ 0))
theorem impl_find.mono : ∀ y0 y1 y2 y3 y4 y5 k,LeO (impl_find.f k y0 y1 y2 y3 y4 y5) (impl_find.f (k + 1) y0 y1 y2 y3 y4 y5):=fun l _ _ _ _ _ k => LeO.bind (idxP71_mono _ _ (fun _ => LeO.refl _) l k 0) (fun _ => LeO.ite (LeO.refl _) (LeO.bind (idxP71_mono _ _ (fun _ => LeO.refl _) l k 0) (fun _ => LeO.refl _)))
set_option maxHeartbeats 8000000 in
set_option maxRecDepth 100000 in
theorem impl_find.calls (k : Nat) (A0 : Option Addr) (c0 : Nat) (l0 : List S71) (a1 : Int) (a2 : Int) (a3 : Int) (a4 : Int) (a5 : Int) (r1 : Int) (r2 : Bool) (w : World) (hr0 : Kd.C k71 w A0 l0.length l0) (hc0 : l0.length ≤ c0) (h : impl_find.f k l0 a1 a2 a3 a4 a5 = some (r1,r2)) :
  Calls Try.prog 78 #[.slice A0 l0.length c0,.int .i64 a1,.int .i64 a2,.int .i64 a3,.int .i64 a4,.int .i64 a5] w fun e w' => e = .returned (.tuple #[.int .i64 r1,.bool r2]) ∧ Below w.heap.size w w':=by
 have HR:=aMk hr0
 clear hr0 hc0
 have HB:=aMk (Below.refl w.heap.size w)
 obtain ⟨t,h1,h2⟩:=Option.bind_eq_some_iff.mp (show ((idxP71 (fun x => impl_find_1.f x.f0 x.f1 x.f2 x.f3 x.f4 x.f5 x.f6 x.f7 x.f8 a1 a2 a3 a4 a5) l0 k 0).bind fun t => if t ≥ 0 then some (t,false) else (idxP71 (fun x => impl_find_2.f x.f0 x.f1 x.f2 x.f3 x.f4 x.f5 x.f6 x.f7 x.f8 a1 a4 a5 a2 a3) l0 k 0).bind fun u => some (u,decide (u ≥ 0))) = some (r1,r2) from h)
 clear h
 have H1:=aMk h1
 clear h1
 by_cases c : t ≥ 0
 ·rw [if_pos c] at h2
  have cb0 : decide (0 ≤ t) = true:=decide_eq_true c
  simp only [Option.some.injEq,Prod.mk.injEq] at h2
  obtain ⟨rfl,rfl⟩:=h2
  go_enter Try.func78,Try.ntmps78
  go_wp2_with (first|((with_reducible refine gate_dst (N:=7) rfl ?_);refine box_event ?hg (N:=7) ?hd (cs:=#[.int .i64 a1]) (t:=3) ?hr ?_;(case hd => rfl);(case hg => rfl);(case hr => first|(go_simp;done)|(go_simp;rfl));intro gb7 hg w7 hbox hb;have n0_:=aMk (below_step HB.out hb);clear HB;have HB:=n0_;clear n0_;have BK7:=aMk hbox;clear hg hb hbox)|((with_reducible refine gate_dst (N:=8) rfl ?_);refine box_event ?hg (N:=8) ?hd (cs:=#[.int .i64 a2]) (t:=3) ?hr ?_;(case hd => rfl);(case hg => rfl);(case hr => first|(go_simp;done)|(go_simp;rfl));intro gb8 hg w8 hbox hb;have n0_:=aMk (below_step HB.out hb);clear HB;have HB:=n0_;clear n0_;have n0_:=aMk (blk_below (g:=gb7) (o:=.cells #[.int .i64 a1] 3 (0,0)) BK7.out hb);clear BK7;have BK7:=n0_;clear n0_;have BK8:=aMk hbox;clear hg hb hbox)|((with_reducible refine gate_dst (N:=9) rfl ?_);refine box_event ?hg (N:=9) ?hd (cs:=#[.int .i64 a3]) (t:=3) ?hr ?_;(case hd => rfl);(case hg => rfl);(case hr => first|(go_simp;done)|(go_simp;rfl));intro gb9 hg w9 hbox hb;have n0_:=aMk (below_step HB.out hb);clear HB;have HB:=n0_;clear n0_;have n0_:=aMk (blk_below (g:=gb7) (o:=.cells #[.int .i64 a1] 3 (0,0)) BK7.out hb);clear BK7;have BK7:=n0_;clear n0_;have n0_:=aMk (blk_below (g:=gb8) (o:=.cells #[.int .i64 a2] 3 (0,0)) BK8.out hb);clear BK8;have BK8:=n0_;clear n0_;have BK9:=aMk hbox;clear hg hb hbox)|((with_reducible refine gate_dst (N:=10) rfl ?_);refine box_event ?hg (N:=10) ?hd (cs:=#[.int .i64 a4]) (t:=3) ?hr ?_;(case hd => rfl);(case hg => rfl);(case hr => first|(go_simp;done)|(go_simp;rfl));intro gb10 hg w10 hbox hb;have n0_:=aMk (below_step HB.out hb);clear HB;have HB:=n0_;clear n0_;have n0_:=aMk (blk_below (g:=gb7) (o:=.cells #[.int .i64 a1] 3 (0,0)) BK7.out hb);clear BK7;have BK7:=n0_;clear n0_;have n0_:=aMk (blk_below (g:=gb8) (o:=.cells #[.int .i64 a2] 3 (0,0)) BK8.out hb);clear BK8;have BK8:=n0_;clear n0_;have n0_:=aMk (blk_below (g:=gb9) (o:=.cells #[.int .i64 a3] 3 (0,0)) BK9.out hb);clear BK9;have BK9:=n0_;clear n0_;have BK10:=aMk hbox;clear hg hb hbox)|((with_reducible refine gate_dst (N:=11) rfl ?_);refine box_event ?hg (N:=11) ?hd (cs:=#[.int .i64 a5]) (t:=3) ?hr ?_;(case hd => rfl);(case hg => rfl);(case hr => first|(go_simp;done)|(go_simp;rfl));intro gb11 hg w11 hbox hb;have n0_:=aMk (below_step HB.out hb);clear HB;have HB:=n0_;clear n0_;have n0_:=aMk (blk_below (g:=gb7) (o:=.cells #[.int .i64 a1] 3 (0,0)) BK7.out hb);clear BK7;have BK7:=n0_;clear n0_;have n0_:=aMk (blk_below (g:=gb8) (o:=.cells #[.int .i64 a2] 3 (0,0)) BK8.out hb);clear BK8;have BK8:=n0_;clear n0_;have n0_:=aMk (blk_below (g:=gb9) (o:=.cells #[.int .i64 a3] 3 (0,0)) BK9.out hb);clear BK9;have BK9:=n0_;clear n0_;have n0_:=aMk (blk_below (g:=gb10) (o:=.cells #[.int .i64 a4] 3 (0,0)) BK10.out hb);clear BK10;have BK10:=n0_;clear n0_;have BK11:=aMk hbox;clear hg hb hbox)|(have h1_:=H1.out;clear H1;refine (indexFunc71 108 #[.pointer (some ⟨gb7,0,none⟩),.pointer (some ⟨gb8,0,none⟩),.pointer (some ⟨gb9,0,none⟩),.pointer (some ⟨gb10,0,none⟩),.pointer (some ⟨gb11,0,none⟩)] (enters_ Try.func108 (by kernel_rfl) rfl) _ k A0 c0 l0 t _ (fun W x b hbW hx => (impl_find_1.calls gb7 gb8 gb9 gb10 gb11 x.f0 x.f1 x.f2 x.f3 x.f4 x.f5 x.f6 x.f7 x.f8 a1 a2 a3 a4 a5 b W ((hbW.cell (wLt _ _ (bCe BK7.out 0))).trans ((bCe BK7.out 0).trans rfl)) ((hbW.cell (wLt _ _ (bCe BK8.out 0))).trans ((bCe BK8.out 0).trans rfl)) ((hbW.cell (wLt _ _ (bCe BK9.out 0))).trans ((bCe BK9.out 0).trans rfl)) ((hbW.cell (wLt _ _ (bCe BK10.out 0))).trans ((bCe BK10.out 0).trans rfl)) ((hbW.cell (wLt _ _ (bCe BK11.out 0))).trans ((bCe BK11.out 0).trans rfl)) hx).mono fun e w' h => ⟨h.1,below_step hbW h.2⟩) (Kd.C_below HR.out (by repeat first|exact HB.out|apply bwA|apply bwN|apply bw1)) h1_).mono ?_;clear h1_;rintro e w12 ⟨rfl,hb⟩;have n0_:=aMk (below_step (by repeat first|exact HB.out|apply bwA|apply bwN|apply bw1) hb);clear HB;have HB:=n0_;clear n0_;have n0_:=aMk (blk_below (g:=gb7) (o:=.cells #[.int .i64 a1] 3 (0,0)) (by (with_reducible repeat (first|refine bDn ?_ _|refine bDr ?_|refine bAl ?_ _));exact BK7.out) hb);clear BK7;have BK7:=n0_;clear n0_;have n0_:=aMk (blk_below (g:=gb8) (o:=.cells #[.int .i64 a2] 3 (0,0)) (by (with_reducible repeat (first|refine bDn ?_ _|refine bDr ?_|refine bAl ?_ _));exact BK8.out) hb);clear BK8;have BK8:=n0_;clear n0_;have n0_:=aMk (blk_below (g:=gb9) (o:=.cells #[.int .i64 a3] 3 (0,0)) (by (with_reducible repeat (first|refine bDn ?_ _|refine bDr ?_|refine bAl ?_ _));exact BK9.out) hb);clear BK9;have BK9:=n0_;clear n0_;have n0_:=aMk (blk_below (g:=gb10) (o:=.cells #[.int .i64 a4] 3 (0,0)) (by (with_reducible repeat (first|refine bDn ?_ _|refine bDr ?_|refine bAl ?_ _));exact BK10.out) hb);clear BK10;have BK10:=n0_;clear n0_;have n0_:=aMk (blk_below (g:=gb11) (o:=.cells #[.int .i64 a5] 3 (0,0)) (by (with_reducible repeat (first|refine bDn ?_ _|refine bDr ?_|refine bAl ?_ _));exact BK11.out) hb);clear BK11;have BK11:=n0_;clear n0_;clear hb))
  go_ret2
  exact ⟨rfl,by repeat (first|(with_reducible first|exact HB.out|apply bwA|apply bwN|apply bw1)|exact HB.out)⟩
 ·rw [if_neg c] at h2
  have cb0 : decide (0 ≤ t) = false:=decide_eq_false c
  obtain ⟨u,h3,h4⟩:=Option.bind_eq_some_iff.mp h2
  simp only [Option.some.injEq,Prod.mk.injEq] at h4
  obtain ⟨rfl,rfl⟩:=h4
  have H3:=aMk h3
  clear h2 h3
  go_enter Try.func78,Try.ntmps78
  go_wp2_with (first|((with_reducible refine gate_dst (N:=7) rfl ?_);refine box_event ?hg (N:=7) ?hd (cs:=#[.int .i64 a1]) (t:=3) ?hr ?_;(case hd => rfl);(case hg => rfl);(case hr => first|(go_simp;done)|(go_simp;rfl));intro gb7 hg w7 hbox hb;have n0_:=aMk (below_step HB.out hb);clear HB;have HB:=n0_;clear n0_;have BK7:=aMk hbox;clear hg hb hbox)|((with_reducible refine gate_dst (N:=8) rfl ?_);refine box_event ?hg (N:=8) ?hd (cs:=#[.int .i64 a2]) (t:=3) ?hr ?_;(case hd => rfl);(case hg => rfl);(case hr => first|(go_simp;done)|(go_simp;rfl));intro gb8 hg w8 hbox hb;have n0_:=aMk (below_step HB.out hb);clear HB;have HB:=n0_;clear n0_;have n0_:=aMk (blk_below (g:=gb7) (o:=.cells #[.int .i64 a1] 3 (0,0)) BK7.out hb);clear BK7;have BK7:=n0_;clear n0_;have BK8:=aMk hbox;clear hg hb hbox)|((with_reducible refine gate_dst (N:=9) rfl ?_);refine box_event ?hg (N:=9) ?hd (cs:=#[.int .i64 a3]) (t:=3) ?hr ?_;(case hd => rfl);(case hg => rfl);(case hr => first|(go_simp;done)|(go_simp;rfl));intro gb9 hg w9 hbox hb;have n0_:=aMk (below_step HB.out hb);clear HB;have HB:=n0_;clear n0_;have n0_:=aMk (blk_below (g:=gb7) (o:=.cells #[.int .i64 a1] 3 (0,0)) BK7.out hb);clear BK7;have BK7:=n0_;clear n0_;have n0_:=aMk (blk_below (g:=gb8) (o:=.cells #[.int .i64 a2] 3 (0,0)) BK8.out hb);clear BK8;have BK8:=n0_;clear n0_;have BK9:=aMk hbox;clear hg hb hbox)|((with_reducible refine gate_dst (N:=10) rfl ?_);refine box_event ?hg (N:=10) ?hd (cs:=#[.int .i64 a4]) (t:=3) ?hr ?_;(case hd => rfl);(case hg => rfl);(case hr => first|(go_simp;done)|(go_simp;rfl));intro gb10 hg w10 hbox hb;have n0_:=aMk (below_step HB.out hb);clear HB;have HB:=n0_;clear n0_;have n0_:=aMk (blk_below (g:=gb7) (o:=.cells #[.int .i64 a1] 3 (0,0)) BK7.out hb);clear BK7;have BK7:=n0_;clear n0_;have n0_:=aMk (blk_below (g:=gb8) (o:=.cells #[.int .i64 a2] 3 (0,0)) BK8.out hb);clear BK8;have BK8:=n0_;clear n0_;have n0_:=aMk (blk_below (g:=gb9) (o:=.cells #[.int .i64 a3] 3 (0,0)) BK9.out hb);clear BK9;have BK9:=n0_;clear n0_;have BK10:=aMk hbox;clear hg hb hbox)|((with_reducible refine gate_dst (N:=11) rfl ?_);refine box_event ?hg (N:=11) ?hd (cs:=#[.int .i64 a5]) (t:=3) ?hr ?_;(case hd => rfl);(case hg => rfl);(case hr => first|(go_simp;done)|(go_simp;rfl));intro gb11 hg w11 hbox hb;have n0_:=aMk (below_step HB.out hb);clear HB;have HB:=n0_;clear n0_;have n0_:=aMk (blk_below (g:=gb7) (o:=.cells #[.int .i64 a1] 3 (0,0)) BK7.out hb);clear BK7;have BK7:=n0_;clear n0_;have n0_:=aMk (blk_below (g:=gb8) (o:=.cells #[.int .i64 a2] 3 (0,0)) BK8.out hb);clear BK8;have BK8:=n0_;clear n0_;have n0_:=aMk (blk_below (g:=gb9) (o:=.cells #[.int .i64 a3] 3 (0,0)) BK9.out hb);clear BK9;have BK9:=n0_;clear n0_;have n0_:=aMk (blk_below (g:=gb10) (o:=.cells #[.int .i64 a4] 3 (0,0)) BK10.out hb);clear BK10;have BK10:=n0_;clear n0_;have BK11:=aMk hbox;clear hg hb hbox)|(have h1_:=H1.out;clear H1;refine (indexFunc71 108 #[.pointer (some ⟨gb7,0,none⟩),.pointer (some ⟨gb8,0,none⟩),.pointer (some ⟨gb9,0,none⟩),.pointer (some ⟨gb10,0,none⟩),.pointer (some ⟨gb11,0,none⟩)] (enters_ Try.func108 (by kernel_rfl) rfl) _ k A0 c0 l0 t _ (fun W x b hbW hx => (impl_find_1.calls gb7 gb8 gb9 gb10 gb11 x.f0 x.f1 x.f2 x.f3 x.f4 x.f5 x.f6 x.f7 x.f8 a1 a2 a3 a4 a5 b W ((hbW.cell (wLt _ _ (bCe BK7.out 0))).trans ((bCe BK7.out 0).trans rfl)) ((hbW.cell (wLt _ _ (bCe BK8.out 0))).trans ((bCe BK8.out 0).trans rfl)) ((hbW.cell (wLt _ _ (bCe BK9.out 0))).trans ((bCe BK9.out 0).trans rfl)) ((hbW.cell (wLt _ _ (bCe BK10.out 0))).trans ((bCe BK10.out 0).trans rfl)) ((hbW.cell (wLt _ _ (bCe BK11.out 0))).trans ((bCe BK11.out 0).trans rfl)) hx).mono fun e w' h => ⟨h.1,below_step hbW h.2⟩) (Kd.C_below HR.out (by repeat first|exact HB.out|apply bwA|apply bwN|apply bw1)) h1_).mono ?_;clear h1_;rintro e w12 ⟨rfl,hb⟩;have n0_:=aMk (below_step (by repeat first|exact HB.out|apply bwA|apply bwN|apply bw1) hb);clear HB;have HB:=n0_;clear n0_;have n0_:=aMk (blk_below (g:=gb7) (o:=.cells #[.int .i64 a1] 3 (0,0)) (by (with_reducible repeat (first|refine bDn ?_ _|refine bDr ?_|refine bAl ?_ _));exact BK7.out) hb);clear BK7;have BK7:=n0_;clear n0_;have n0_:=aMk (blk_below (g:=gb8) (o:=.cells #[.int .i64 a2] 3 (0,0)) (by (with_reducible repeat (first|refine bDn ?_ _|refine bDr ?_|refine bAl ?_ _));exact BK8.out) hb);clear BK8;have BK8:=n0_;clear n0_;have n0_:=aMk (blk_below (g:=gb9) (o:=.cells #[.int .i64 a3] 3 (0,0)) (by (with_reducible repeat (first|refine bDn ?_ _|refine bDr ?_|refine bAl ?_ _));exact BK9.out) hb);clear BK9;have BK9:=n0_;clear n0_;have n0_:=aMk (blk_below (g:=gb10) (o:=.cells #[.int .i64 a4] 3 (0,0)) (by (with_reducible repeat (first|refine bDn ?_ _|refine bDr ?_|refine bAl ?_ _));exact BK10.out) hb);clear BK10;have BK10:=n0_;clear n0_;have n0_:=aMk (blk_below (g:=gb11) (o:=.cells #[.int .i64 a5] 3 (0,0)) (by (with_reducible repeat (first|refine bDn ?_ _|refine bDr ?_|refine bAl ?_ _));exact BK11.out) hb);clear BK11;have BK11:=n0_;clear n0_;clear hb)|(have h1_:=H3.out;clear H3;refine (indexFunc71 110 #[.pointer (some ⟨gb7,0,none⟩),.pointer (some ⟨gb10,0,none⟩),.pointer (some ⟨gb11,0,none⟩),.pointer (some ⟨gb8,0,none⟩),.pointer (some ⟨gb9,0,none⟩)] (enters_ Try.func110 (by kernel_rfl) rfl) _ k A0 c0 l0 u _ (fun W x b hbW hx => (impl_find_2.calls gb7 gb10 gb11 gb8 gb9 x.f0 x.f1 x.f2 x.f3 x.f4 x.f5 x.f6 x.f7 x.f8 a1 a4 a5 a2 a3 b W ((hbW.cell (wLt _ _ (bCe BK7.out 0))).trans ((bCe BK7.out 0).trans rfl)) ((hbW.cell (wLt _ _ (bCe BK10.out 0))).trans ((bCe BK10.out 0).trans rfl)) ((hbW.cell (wLt _ _ (bCe BK11.out 0))).trans ((bCe BK11.out 0).trans rfl)) ((hbW.cell (wLt _ _ (bCe BK8.out 0))).trans ((bCe BK8.out 0).trans rfl)) ((hbW.cell (wLt _ _ (bCe BK9.out 0))).trans ((bCe BK9.out 0).trans rfl)) hx).mono fun e w' h => ⟨h.1,below_step hbW h.2⟩) (Kd.C_below HR.out (by repeat first|exact HB.out|apply bwA|apply bwN|apply bw1)) h1_).mono ?_;clear h1_;rintro e w13 ⟨rfl,hb⟩;have n0_:=aMk (below_step (by repeat first|exact HB.out|apply bwA|apply bwN|apply bw1) hb);clear HB;have HB:=n0_;clear n0_;have n0_:=aMk (blk_below (g:=gb7) (o:=.cells #[.int .i64 a1] 3 (0,0)) (by (with_reducible repeat (first|refine bDn ?_ _|refine bDr ?_|refine bAl ?_ _));exact BK7.out) hb);clear BK7;have BK7:=n0_;clear n0_;have n0_:=aMk (blk_below (g:=gb8) (o:=.cells #[.int .i64 a2] 3 (0,0)) (by (with_reducible repeat (first|refine bDn ?_ _|refine bDr ?_|refine bAl ?_ _));exact BK8.out) hb);clear BK8;have BK8:=n0_;clear n0_;have n0_:=aMk (blk_below (g:=gb9) (o:=.cells #[.int .i64 a3] 3 (0,0)) (by (with_reducible repeat (first|refine bDn ?_ _|refine bDr ?_|refine bAl ?_ _));exact BK9.out) hb);clear BK9;have BK9:=n0_;clear n0_;have n0_:=aMk (blk_below (g:=gb10) (o:=.cells #[.int .i64 a4] 3 (0,0)) (by (with_reducible repeat (first|refine bDn ?_ _|refine bDr ?_|refine bAl ?_ _));exact BK10.out) hb);clear BK10;have BK10:=n0_;clear n0_;have n0_:=aMk (blk_below (g:=gb11) (o:=.cells #[.int .i64 a5] 3 (0,0)) (by (with_reducible repeat (first|refine bDn ?_ _|refine bDr ?_|refine bAl ?_ _));exact BK11.out) hb);clear BK11;have BK11:=n0_;clear n0_;clear hb))
  go_ret2
  exact ⟨rfl,by repeat (first|(with_reducible first|exact HB.out|apply bwA|apply bwN|apply bw1)|exact HB.out)⟩
end
end Go.Proofs.Ytlpkldomoniegaa.X
