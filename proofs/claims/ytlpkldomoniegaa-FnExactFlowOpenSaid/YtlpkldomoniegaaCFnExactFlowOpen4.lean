/- Texts that the row of FnExactFlowOpen stands on: functions of the program and of the reference, each as a Lean function with the same answers, and the plain lemmas. Conditions: none beside those that each theorem names. -/
import Derived.Test.YtlpkldomoniegaaCFnExactFlowOpen3
namespace Go.Proofs.Ytlpkldomoniegaa.X
open Go.RowKit Go.Proofs.YtlpkldomoniegaaW.PrintWords Go.Proofs.YtlpkldomoniegaaW.PrintLast Go.Proofs.YtlpkldomoniegaaW.PrintMore
attribute [local go_sem] max2_int min2_int max_two min_two max_three min_three max_four min_four   -- for this text's walks alone
set_option linter.unusedVariables false
set_option linter.unusedSimpArgs false
open Go.Proofs.YtlpkldomoniegaaW.PrintWords renaming blk_drewN -> bDn
open Go.Proofs.YtlpkldomoniegaaW.PrintWords renaming blk_drew -> bDr
open Go.Proofs.YtlpkldomoniegaaW.PrintWords renaming blk_alloc -> bAl
open Go.Proofs.YtlpkldomoniegaaW.PrintWords renaming blk_frozen -> bFr
open Go.Proofs.YtlpkldomoniegaaW.PrintWords renaming blk_cell -> bCe
open Go.Proofs.YtlpkldomoniegaaW.PrintWords.Aside0 renaming mk -> aMk
open Go.World renaming block_lt_of_cell? -> wLt
open Go.Proofs.YtlpkldomoniegaaW.PrintWords renaming pw_below_drewN -> bwN
open Go.Proofs.YtlpkldomoniegaaW.PrintWords renaming below_drew1 -> bw1
open Go.Proofs.YtlpkldomoniegaaW.PrintWords renaming below_alloc -> bwA
section
/-! ### impl_FlowsOK: function 29 -/
mutual
def impl_FlowsOK.l0 : Nat → List (S71) → Int → Int → Option (Bool)
 | 0,_,_,_ => none
 | k + 1,x0,x11,x12 => if x12 < x11 then (if 0 ≤ x12 then (if x12 < (x0.length : Int) then ((impl_Flow_endsOKAt.f ((rd_T71 x0 x12).f0) ((rd_T71 x0 x12).f1) ((rd_T71 x0 x12).f2) ((rd_T71 x0 x12).f3) ((rd_T71 x0 x12).f4) ((rd_T71 x0 x12).f5) ((rd_T71 x0 x12).f6) ((rd_T71 x0 x12).f7) ((rd_T71 x0 x12).f8)).bind fun t262 => (if t262 = true then ((impl_within.f ((rd_T71 x0 x12).f6) 1 3).bind fun t264 => (if t264 = true then ((impl_within.f ((rd_T71 x0 x12).f7) 0 100100).bind fun t266 => (impl_FlowsOK.j1 k x0 x12 x11 x12 (!t266))) else (impl_FlowsOK.j1 k x0 x12 x11 x12 true))) else (impl_FlowsOK.j1 k x0 x12 x11 x12 true))) else (none)) else (none)) else (some true)
def impl_FlowsOK.j1 : Nat → List (S71) → Int → Int → Int → Bool → Option (Bool)
 | 0,_,_,_,_,_ => none
 | k + 1,x0,x3,x11,x12,x36 => if x36 = true then (some false) else (if 0 ≤ x3 then (if x3 ≤ (x0.length : Int) then (if x3 < (x0.length : Int) then ((impl_find.f k (x0.take (x3 : Int).toNat) ((rd_T71 x0 x3).f0) ((rd_T71 x0 x3).f2) ((rd_T71 x0 x3).f3) ((rd_T71 x0 x3).f4) ((rd_T71 x0 x3).f5)).bind fun bt276 => (if bt276.1 ≥ 0 then (some false) else (impl_FlowsOK.l0 k x0 x11 (wrap64 (x12 + 1))))) else (none)) else (none)) else (none))
end
def impl_FlowsOK.f (k : Nat) (l0 : List (S71)) : Option (Bool):=if (l0.length : Int) > 8 then (some false) else (impl_FlowsOK.l0 k l0 (l0.length : Int) 0)
theorem impl_FlowsOK.mono_l : ∀ k,(∀ y0 y1 y2,LeO (impl_FlowsOK.l0 k y0 y1 y2) (impl_FlowsOK.l0 (k + 1) y0 y1 y2)) ∧ (∀ y0 y1 y2 y3 y4,LeO (impl_FlowsOK.j1 k y0 y1 y2 y3 y4) (impl_FlowsOK.j1 (k + 1) y0 y1 y2 y3 y4))
 | 0 => ⟨fun _ _ _ r h => by simp [impl_FlowsOK.l0] at h,fun _ _ _ _ _ r h => by simp [impl_FlowsOK.j1] at h⟩
 | k + 1 => by
  obtain ⟨ih0,ih1⟩:=impl_FlowsOK.mono_l k
  refine ⟨?_,?_⟩
  ·intro y0 y1 y2
   unfold impl_FlowsOK.l0
   repeat' first
   | (with_reducible exact ih0 _ _ _)
   | (with_reducible exact ih1 _ _ _ _ _)
   | (with_reducible exact impl_find.mono ..)
   | (with_reducible exact LeO.refl _)
   | (with_reducible exact LeO.none _)
   | (with_reducible refine LeO.ite ?_ ?_)
   | (with_reducible refine LeO.bind ?_ (fun _ => ?_))
   | exact ih0 _ _ _
   | exact ih1 _ _ _ _ _
   | exact impl_find.mono ..
   | exact LeO.none _
   | refine LeO.ite ?_ ?_
   | refine LeO.bind ?_ (fun _ => ?_)
  ·intro y0 y1 y2 y3 y4
   unfold impl_FlowsOK.j1
   repeat' first
   | (with_reducible exact ih0 _ _ _)
   | (with_reducible exact ih1 _ _ _ _ _)
   | (with_reducible exact impl_find.mono ..)
   | (with_reducible exact LeO.refl _)
   | (with_reducible exact LeO.none _)
   | (with_reducible refine LeO.ite ?_ ?_)
   | (with_reducible refine LeO.bind ?_ (fun _ => ?_))
   | exact ih0 _ _ _
   | exact ih1 _ _ _ _ _
   | exact impl_find.mono ..
   | exact LeO.none _
   | refine LeO.ite ?_ ?_
   | refine LeO.bind ?_ (fun _ => ?_)
theorem impl_FlowsOK.mono : ∀ a0 k,LeO (impl_FlowsOK.f k a0) (impl_FlowsOK.f (k + 1) a0):=by
 intro a0 k
 obtain ⟨ih0,ih1⟩:=impl_FlowsOK.mono_l k
 unfold impl_FlowsOK.f
 repeat' first
   | (with_reducible exact ih0 _ _ _)
   | (with_reducible exact ih1 _ _ _ _ _)
   | (with_reducible exact impl_find.mono ..)
   | (with_reducible exact LeO.refl _)
   | (with_reducible exact LeO.none _)
   | (with_reducible refine LeO.ite ?_ ?_)
   | (with_reducible refine LeO.bind ?_ (fun _ => ?_))
   | exact ih0 _ _ _
   | exact ih1 _ _ _ _ _
   | exact impl_find.mono ..
   | exact LeO.none _
   | refine LeO.ite ?_ ?_
   | refine LeO.bind ?_ (fun _ => ?_)
def impl_FlowsOK.T9 : Bool × List (List Nat × List Nat):=(true,[([],[]),([],[]),([0,1],[0,1]),([],[]),([3],[3]),([4],[4]),([5],[5]),([],[]),([7],[7]),([8],[8]),([9],[9]),([],[]),([11],[11]),([12],[12]),([13],[13]),([],[]),([15],[15]),([16],[16]),([17],[17]),([],[]),([19],[19]),([20],[20]),([21],[21]),([2,6,10,14,18,22],[2,6,10,14,18,22]),([23],[23]),([24],[24]),([24],[24]),([25,23,0,1,2,3,4,5,6,7,8,9,10,11,12,13,14,15,16,17,18,19,20,21,22,23,24,25],[25]),([26,27,0,1,2,3,4,5,6,7,8,9,10,11,12,13,14,15,16,17,18,19,20,21,22,23,24,25,26,27],[26])])
def impl_FlowsOK.B9 : List Nat:=[0,0,3,0,8,24,56,0,128,384,896,0,2048,6144,14336,0,32768,98304,229376,0,524288,1572864,3670016,8388607,16777215,33554431,33554431,67108863,268435455]
theorem impl_FlowsOK.tab9 : rtab .any (opsOf Try.f29 9) = impl_FlowsOK.T9:=by kernel_rfl
theorem impl_FlowsOK.bits9 : waitsOk impl_FlowsOK.T9.2 impl_FlowsOK.B9 = true:=by kernel_rfl
set_option maxHeartbeats 8000000 in
set_option maxRecDepth 100000 in
theorem impl_FlowsOK.calls (k : Nat) (A0 : Option Addr) (c0 : Nat) (l0 : List (S71)) (r : Bool) (w : World) (hr0 : Kd.C k71 w A0 l0.length l0) (hc0 : l0.length ≤ c0) (h : impl_FlowsOK.f k l0 = some r) :
  Calls Try.prog 29 #[.slice A0 l0.length c0] w fun e w' => e = .returned (.bool r) ∧ Below w.heap.size w w':=by
 have HR0:=aMk hr0
 have HC0:=aMk hc0
 clear hr0 hc0
 have HB:=aMk (Below.refl w.heap.size w)
 have H : (if (l0.length : Int) > 8 then (some false) else (impl_FlowsOK.l0 k l0 (l0.length : Int) 0)) = some r:=h
 clear h
 by_cases c2 : (l0.length : Int) > 8
 ·rw [if_pos c2] at H
  have c2b0 : decide (8 < (l0.length : Int)) = true:=decide_eq_true c2
  have c2b1 : decide (8 < l0.length) = true:=decide_eq_true (by omega)
  clear c2
  obtain rfl:=Option.some.inj H
  go_enter Try.func29,Try.ntmps29
  go_wp2
  go_ret
  exact ⟨by first | rfl|(simp [errW_none,errW_some] <;> rfl)|(simp [*,errW_none,errW_some] <;> rfl),by repeat (first|(with_reducible first|exact HB.out|apply bwA|apply bwN|apply bw1)|exact HB.out)⟩
 ·rw [if_neg c2] at H
  have c2b0 : decide (8 < (l0.length : Int)) = false:=decide_eq_false c2
  have c2b1 : decide (8 < l0.length) = false:=decide_eq_false (by omega)
  clear c2
  have H':=aMk H
  clear H
  go_enter Try.func29,Try.ntmps29
  go_wp2
  go_loopg [12] k (fun kq v12 w' => ∃ (x12_1 : Int),v12 = .int .i64 x12_1 ∧ Aside0 (impl_FlowsOK.l0 kq l0 (l0.length : Int) x12_1 = some r) ∧ Aside0 (kq ≤ k) ∧ Aside0 (Below w.heap.size w w'))
  case atStart => exact ⟨(0),(by first | rfl|(simp;done)|(simp [*];done)|(simp [ne_nil_b];done)|(simp [ne_nil_b, *];done)),H',⟨Nat.le_refl _⟩,⟨by repeat (first|(with_reducible first|exact HB.out|apply bwA|apply bwN|apply bw1)|exact HB.out)⟩⟩
  case round =>
   clear H'
   try clear c2
   try clear c2b0
   try clear c2b1
   try clear p2
   obtain ⟨x12_1,rfl,HA,HK1,HB⟩:=hrel
   cases gk with
   | zero => exact absurd HA.out (by simp [impl_FlowsOK.l0])
   | succ k1 =>
    have H:=HA.out
    clear HA
    simp only [impl_FlowsOK.l0] at H
    by_cases c3 : x12_1 < (l0.length : Int)
    ·rw [if_pos c3] at H
     have c3b0 : decide (x12_1 < (l0.length : Int)) = true:=decide_eq_true c3
     clear c3
     by_cases c4 : 0 ≤ x12_1
     ·rw [if_pos c4] at H
      have c4b0 : decide (0 ≤ x12_1) = true:=decide_eq_true c4
      clear c4
      by_cases c5 : x12_1 < (l0.length : Int)
      ·rw [if_pos c5] at H
       have c5b0 : decide (x12_1 < (l0.length : Int)) = true:=decide_eq_true c5
       clear c5
       have HC6:=aMk H
       clear H
       have p260 : 0 ≤ (x12_1 : Int):=of_decide_eq_true (by first|(with_reducible assumption) | assumption)
       have q260 : x12_1 < (l0.length : Int):=of_decide_eq_true (by first|(with_reducible assumption) | assumption)
       obtain ⟨ad260,e260,hx260_0,hx260_1,hx260_2,hx260_3,hx260_4,hx260_5,hx260_6,hx260_7,hx260_8⟩:=at_T71 HR0.out x12_1 p260 q260
       cases e260
       replace hx260_0:=(HB.out.cell (wLt w _ hx260_0)).trans hx260_0
       replace hx260_1:=(HB.out.cell (wLt w _ hx260_1)).trans hx260_1
       replace hx260_2:=(HB.out.cell (wLt w _ hx260_2)).trans hx260_2
       replace hx260_3:=(HB.out.cell (wLt w _ hx260_3)).trans hx260_3
       replace hx260_4:=(HB.out.cell (wLt w _ hx260_4)).trans hx260_4
       replace hx260_5:=(HB.out.cell (wLt w _ hx260_5)).trans hx260_5
       replace hx260_6:=(HB.out.cell (wLt w _ hx260_6)).trans hx260_6
       replace hx260_7:=(HB.out.cell (wLt w _ hx260_7)).trans hx260_7
       replace hx260_8:=(HB.out.cell (wLt w _ hx260_8)).trans hx260_8
       replace p260:=eq_true p260
       replace q260:=eq_true q260
       go_upto_region 7 with (fail)
       go_cut [36] (fun v36 wc => ∃ (kq : Nat) (x36_5 : Bool),v36 = .bool x36_5 ∧ Aside0 (impl_FlowsOK.j1 kq l0 x12_1 (l0.length : Int) x12_1 x36_5 = some r) ∧ Aside0 (kq ≤ k1) ∧ Aside0 (Below w.heap.size w wc))
       case first =>
        have H:=HC6.out
        clear HC6
        replace H:=Option.bind_eq_some_iff.mp H
        obtain ⟨t262,A70,H⟩:=H
        replace H : (if t262 = true then ((impl_within.f ((rd_T71 l0 x12_1).f6) 1 3).bind fun t264 => (if t264 = true then ((impl_within.f ((rd_T71 l0 x12_1).f7) 0 100100).bind fun t266 => (impl_FlowsOK.j1 k1 l0 x12_1 (l0.length : Int) x12_1 (!t266))) else (impl_FlowsOK.j1 k1 l0 x12_1 (l0.length : Int) x12_1 true))) else (impl_FlowsOK.j1 k1 l0 x12_1 (l0.length : Int) x12_1 true)) = some r:=H
        have A7:=aMk A70
        clear A70
        by_cases c8 : t262 = true
        ·subst c8
         have H1 : ((impl_within.f ((rd_T71 l0 x12_1).f6) 1 3).bind fun t264 => (if t264 = true then ((impl_within.f ((rd_T71 l0 x12_1).f7) 0 100100).bind fun t266 => (impl_FlowsOK.j1 k1 l0 x12_1 (l0.length : Int) x12_1 (!t266))) else (impl_FlowsOK.j1 k1 l0 x12_1 (l0.length : Int) x12_1 true))) = some r:=by rw [if_pos rfl] at H;exact H
         clear H
         have H:=H1
         clear H1
         replace H:=Option.bind_eq_some_iff.mp H
         obtain ⟨t264,A90,H⟩:=H
         replace H : (if t264 = true then ((impl_within.f ((rd_T71 l0 x12_1).f7) 0 100100).bind fun t266 => (impl_FlowsOK.j1 k1 l0 x12_1 (l0.length : Int) x12_1 (!t266))) else (impl_FlowsOK.j1 k1 l0 x12_1 (l0.length : Int) x12_1 true)) = some r:=H
         have A9:=aMk A90
         clear A90
         by_cases c10 : t264 = true
         ·subst c10
          have H1 : ((impl_within.f ((rd_T71 l0 x12_1).f7) 0 100100).bind fun t266 => (impl_FlowsOK.j1 k1 l0 x12_1 (l0.length : Int) x12_1 (!t266))) = some r:=by rw [if_pos rfl] at H;exact H
          clear H
          have H:=H1
          clear H1
          replace H:=Option.bind_eq_some_iff.mp H
          obtain ⟨t266,A110,H⟩:=H
          replace H : (impl_FlowsOK.j1 k1 l0 x12_1 (l0.length : Int) x12_1 (!t266)) = some r:=H
          have A11:=aMk A110
          clear A110
          have H':=aMk H
          clear H
          have p261 : 0 ≤ (x12_1 : Int):=of_decide_eq_true (by first|(with_reducible assumption) | assumption)
          have q261 : x12_1 < (l0.length : Int):=of_decide_eq_true (by first|(with_reducible assumption) | assumption)
          obtain ⟨ad261,e261,hx261_0,hx261_1,hx261_2,hx261_3,hx261_4,hx261_5,hx261_6,hx261_7,hx261_8⟩:=at_T71 HR0.out x12_1 p261 q261
          obtain rfl : ad260 = ad261:=(by injection e261)
          replace hx261_0:=(HB.out.cell (wLt w _ hx261_0)).trans hx261_0
          replace hx261_1:=(HB.out.cell (wLt w _ hx261_1)).trans hx261_1
          replace hx261_2:=(HB.out.cell (wLt w _ hx261_2)).trans hx261_2
          replace hx261_3:=(HB.out.cell (wLt w _ hx261_3)).trans hx261_3
          replace hx261_4:=(HB.out.cell (wLt w _ hx261_4)).trans hx261_4
          replace hx261_5:=(HB.out.cell (wLt w _ hx261_5)).trans hx261_5
          replace hx261_6:=(HB.out.cell (wLt w _ hx261_6)).trans hx261_6
          replace hx261_7:=(HB.out.cell (wLt w _ hx261_7)).trans hx261_7
          replace hx261_8:=(HB.out.cell (wLt w _ hx261_8)).trans hx261_8
          replace p261:=eq_true p261
          replace q261:=eq_true q261
          go_wp2_with (first|((with_reducible refine gate_callee (f:=77) rfl ?_);refine goesL_ (some 19) rfl rfl Try.func77 (by kernel_rfl) rfl #[.pointer (some (ad260.add ((x12_1 : Int).toNat * 9)))] rfl (by (try simp only [List.map_toArray,List.map_cons,List.map_nil]);first | done | rfl|(simp only [List.length_drop,List.length_take];rfl)) ?_;(with_reducible refine (impl_Flow_endsOKAt.calls ad260 ((x12_1 : Int).toNat * 9) ((rd_T71 l0 x12_1).f0) ((rd_T71 l0 x12_1).f1) ((rd_T71 l0 x12_1).f2) ((rd_T71 l0 x12_1).f3) ((rd_T71 l0 x12_1).f4) ((rd_T71 l0 x12_1).f5) ((rd_T71 l0 x12_1).f6) ((rd_T71 l0 x12_1).f7) ((rd_T71 l0 x12_1).f8) true _ hx260_0 hx260_1 hx260_2 hx260_3 hx260_4 hx260_5 hx260_6 hx260_7 hx260_8 A7.out).mono ?_);rintro e w12 ⟨rfl,hb⟩;refine ⟨_,rfl,?_⟩;have n0_:=aMk (below_step (by repeat first|exact HB.out|apply bwA|apply bwN|apply bw1) hb);clear HB;have HB:=n0_;clear n0_;(try clear hb);(try clear hb2);(try clear hk);(try clear hi);have p263 : 0 ≤ (x12_1 : Int):=of_decide_eq_true (by first|(with_reducible assumption) | assumption);have q263 : x12_1 < (l0.length : Int):=of_decide_eq_true (by first|(with_reducible assumption) | assumption);obtain ⟨ad263,e263,hx263_0,hx263_1,hx263_2,hx263_3,hx263_4,hx263_5,hx263_6,hx263_7,hx263_8⟩:=at_T71 HR0.out x12_1 p263 q263;obtain rfl : ad260 = ad263:=(by injection e263);replace hx263_0:=(HB.out.cell (wLt w _ hx263_0)).trans hx263_0;replace hx263_1:=(HB.out.cell (wLt w _ hx263_1)).trans hx263_1;replace hx263_2:=(HB.out.cell (wLt w _ hx263_2)).trans hx263_2;replace hx263_3:=(HB.out.cell (wLt w _ hx263_3)).trans hx263_3;replace hx263_4:=(HB.out.cell (wLt w _ hx263_4)).trans hx263_4;replace hx263_5:=(HB.out.cell (wLt w _ hx263_5)).trans hx263_5;replace hx263_6:=(HB.out.cell (wLt w _ hx263_6)).trans hx263_6;replace hx263_7:=(HB.out.cell (wLt w _ hx263_7)).trans hx263_7;replace hx263_8:=(HB.out.cell (wLt w _ hx263_8)).trans hx263_8;replace p263:=eq_true p263;replace q263:=eq_true q263)|(go_at_call 62;(with_reducible refine (impl_within.calls ((rd_T71 l0 x12_1).f6) 1 3 true _ A9.out).mono ?_);rintro e w' ⟨rfl,⟨nd,rfl⟩⟩;have p265 : 0 ≤ (x12_1 : Int):=of_decide_eq_true (by first|(with_reducible assumption) | assumption);have q265 : x12_1 < (l0.length : Int):=of_decide_eq_true (by first|(with_reducible assumption) | assumption);obtain ⟨ad265,e265,hx265_0,hx265_1,hx265_2,hx265_3,hx265_4,hx265_5,hx265_6,hx265_7,hx265_8⟩:=at_T71 HR0.out x12_1 p265 q265;obtain rfl : ad260 = ad265:=(by injection e265);replace hx265_0:=(HB.out.cell (wLt w _ hx265_0)).trans hx265_0;replace hx265_1:=(HB.out.cell (wLt w _ hx265_1)).trans hx265_1;replace hx265_2:=(HB.out.cell (wLt w _ hx265_2)).trans hx265_2;replace hx265_3:=(HB.out.cell (wLt w _ hx265_3)).trans hx265_3;replace hx265_4:=(HB.out.cell (wLt w _ hx265_4)).trans hx265_4;replace hx265_5:=(HB.out.cell (wLt w _ hx265_5)).trans hx265_5;replace hx265_6:=(HB.out.cell (wLt w _ hx265_6)).trans hx265_6;replace hx265_7:=(HB.out.cell (wLt w _ hx265_7)).trans hx265_7;replace hx265_8:=(HB.out.cell (wLt w _ hx265_8)).trans hx265_8;replace p265:=eq_true p265;replace q265:=eq_true q265)|(go_at_call 62;(with_reducible refine (impl_within.calls ((rd_T71 l0 x12_1).f7) 0 100100 t266 _ A11.out).mono ?_);rintro e w' ⟨rfl,⟨nd,rfl⟩⟩))
          go_meet
          case rel => exact ⟨_,(!t266),(by first | rfl|(simp;done)|(simp [*];done)|(simp [ne_nil_b];done)|(simp [ne_nil_b, *];done)),H',⟨by have:=HK1.out;first | omega|exact Nat.le_refl _⟩,⟨by repeat (first|(with_reducible first|exact HB.out|apply bwA|apply bwN|apply bw1)|exact HB.out)⟩⟩
         ·replace c10:=Bool.eq_false_iff.mpr c10
          subst c10
          have H1 : (impl_FlowsOK.j1 k1 l0 x12_1 (l0.length : Int) x12_1 true) = some r:=by rw [if_neg (show ¬ (false = true) by decide)] at H;exact H
          clear H
          have H:=H1
          clear H1
          have H':=aMk H
          clear H
          have p261 : 0 ≤ (x12_1 : Int):=of_decide_eq_true (by first|(with_reducible assumption) | assumption)
          have q261 : x12_1 < (l0.length : Int):=of_decide_eq_true (by first|(with_reducible assumption) | assumption)
          obtain ⟨ad261,e261,hx261_0,hx261_1,hx261_2,hx261_3,hx261_4,hx261_5,hx261_6,hx261_7,hx261_8⟩:=at_T71 HR0.out x12_1 p261 q261
          obtain rfl : ad260 = ad261:=(by injection e261)
          replace hx261_0:=(HB.out.cell (wLt w _ hx261_0)).trans hx261_0
          replace hx261_1:=(HB.out.cell (wLt w _ hx261_1)).trans hx261_1
          replace hx261_2:=(HB.out.cell (wLt w _ hx261_2)).trans hx261_2
          replace hx261_3:=(HB.out.cell (wLt w _ hx261_3)).trans hx261_3
          replace hx261_4:=(HB.out.cell (wLt w _ hx261_4)).trans hx261_4
          replace hx261_5:=(HB.out.cell (wLt w _ hx261_5)).trans hx261_5
          replace hx261_6:=(HB.out.cell (wLt w _ hx261_6)).trans hx261_6
          replace hx261_7:=(HB.out.cell (wLt w _ hx261_7)).trans hx261_7
          replace hx261_8:=(HB.out.cell (wLt w _ hx261_8)).trans hx261_8
          replace p261:=eq_true p261
          replace q261:=eq_true q261
          go_wp2_with (first|((with_reducible refine gate_callee (f:=77) rfl ?_);refine goesL_ (some 19) rfl rfl Try.func77 (by kernel_rfl) rfl #[.pointer (some (ad260.add ((x12_1 : Int).toNat * 9)))] rfl (by (try simp only [List.map_toArray,List.map_cons,List.map_nil]);first | done | rfl|(simp only [List.length_drop,List.length_take];rfl)) ?_;(with_reducible refine (impl_Flow_endsOKAt.calls ad260 ((x12_1 : Int).toNat * 9) ((rd_T71 l0 x12_1).f0) ((rd_T71 l0 x12_1).f1) ((rd_T71 l0 x12_1).f2) ((rd_T71 l0 x12_1).f3) ((rd_T71 l0 x12_1).f4) ((rd_T71 l0 x12_1).f5) ((rd_T71 l0 x12_1).f6) ((rd_T71 l0 x12_1).f7) ((rd_T71 l0 x12_1).f8) true _ hx260_0 hx260_1 hx260_2 hx260_3 hx260_4 hx260_5 hx260_6 hx260_7 hx260_8 A7.out).mono ?_);rintro e w13 ⟨rfl,hb⟩;refine ⟨_,rfl,?_⟩;have n0_:=aMk (below_step (by repeat first|exact HB.out|apply bwA|apply bwN|apply bw1) hb);clear HB;have HB:=n0_;clear n0_;(try clear hb);(try clear hb2);(try clear hk);(try clear hi);have p263 : 0 ≤ (x12_1 : Int):=of_decide_eq_true (by first|(with_reducible assumption) | assumption);have q263 : x12_1 < (l0.length : Int):=of_decide_eq_true (by first|(with_reducible assumption) | assumption);obtain ⟨ad263,e263,hx263_0,hx263_1,hx263_2,hx263_3,hx263_4,hx263_5,hx263_6,hx263_7,hx263_8⟩:=at_T71 HR0.out x12_1 p263 q263;obtain rfl : ad260 = ad263:=(by injection e263);replace hx263_0:=(HB.out.cell (wLt w _ hx263_0)).trans hx263_0;replace hx263_1:=(HB.out.cell (wLt w _ hx263_1)).trans hx263_1;replace hx263_2:=(HB.out.cell (wLt w _ hx263_2)).trans hx263_2;replace hx263_3:=(HB.out.cell (wLt w _ hx263_3)).trans hx263_3;replace hx263_4:=(HB.out.cell (wLt w _ hx263_4)).trans hx263_4;replace hx263_5:=(HB.out.cell (wLt w _ hx263_5)).trans hx263_5;replace hx263_6:=(HB.out.cell (wLt w _ hx263_6)).trans hx263_6;replace hx263_7:=(HB.out.cell (wLt w _ hx263_7)).trans hx263_7;replace hx263_8:=(HB.out.cell (wLt w _ hx263_8)).trans hx263_8;replace p263:=eq_true p263;replace q263:=eq_true q263)|(go_at_call 62;(with_reducible refine (impl_within.calls ((rd_T71 l0 x12_1).f6) 1 3 false _ A9.out).mono ?_);rintro e w' ⟨rfl,⟨nd,rfl⟩⟩))
          go_meet
          case rel => exact ⟨_,(true),(by first | rfl|(simp;done)|(simp [*];done)|(simp [ne_nil_b];done)|(simp [ne_nil_b, *];done)),H',⟨by have:=HK1.out;first | omega|exact Nat.le_refl _⟩,⟨by repeat (first|(with_reducible first|exact HB.out|apply bwA|apply bwN|apply bw1)|exact HB.out)⟩⟩
        ·replace c8:=Bool.eq_false_iff.mpr c8
         subst c8
         have H1 : (impl_FlowsOK.j1 k1 l0 x12_1 (l0.length : Int) x12_1 true) = some r:=by rw [if_neg (show ¬ (false = true) by decide)] at H;exact H
         clear H
         have H:=H1
         clear H1
         have H':=aMk H
         clear H
         have p261 : 0 ≤ (x12_1 : Int):=of_decide_eq_true (by first|(with_reducible assumption) | assumption)
         have q261 : x12_1 < (l0.length : Int):=of_decide_eq_true (by first|(with_reducible assumption) | assumption)
         obtain ⟨ad261,e261,hx261_0,hx261_1,hx261_2,hx261_3,hx261_4,hx261_5,hx261_6,hx261_7,hx261_8⟩:=at_T71 HR0.out x12_1 p261 q261
         obtain rfl : ad260 = ad261:=(by injection e261)
         replace hx261_0:=(HB.out.cell (wLt w _ hx261_0)).trans hx261_0
         replace hx261_1:=(HB.out.cell (wLt w _ hx261_1)).trans hx261_1
         replace hx261_2:=(HB.out.cell (wLt w _ hx261_2)).trans hx261_2
         replace hx261_3:=(HB.out.cell (wLt w _ hx261_3)).trans hx261_3
         replace hx261_4:=(HB.out.cell (wLt w _ hx261_4)).trans hx261_4
         replace hx261_5:=(HB.out.cell (wLt w _ hx261_5)).trans hx261_5
         replace hx261_6:=(HB.out.cell (wLt w _ hx261_6)).trans hx261_6
         replace hx261_7:=(HB.out.cell (wLt w _ hx261_7)).trans hx261_7
         replace hx261_8:=(HB.out.cell (wLt w _ hx261_8)).trans hx261_8
         replace p261:=eq_true p261
         replace q261:=eq_true q261
         go_wp2_with (first|((with_reducible refine gate_callee (f:=77) rfl ?_);refine goesL_ (some 19) rfl rfl Try.func77 (by kernel_rfl) rfl #[.pointer (some (ad260.add ((x12_1 : Int).toNat * 9)))] rfl (by (try simp only [List.map_toArray,List.map_cons,List.map_nil]);first | done | rfl|(simp only [List.length_drop,List.length_take];rfl)) ?_;(with_reducible refine (impl_Flow_endsOKAt.calls ad260 ((x12_1 : Int).toNat * 9) ((rd_T71 l0 x12_1).f0) ((rd_T71 l0 x12_1).f1) ((rd_T71 l0 x12_1).f2) ((rd_T71 l0 x12_1).f3) ((rd_T71 l0 x12_1).f4) ((rd_T71 l0 x12_1).f5) ((rd_T71 l0 x12_1).f6) ((rd_T71 l0 x12_1).f7) ((rd_T71 l0 x12_1).f8) false _ hx260_0 hx260_1 hx260_2 hx260_3 hx260_4 hx260_5 hx260_6 hx260_7 hx260_8 A7.out).mono ?_);rintro e w14 ⟨rfl,hb⟩;refine ⟨_,rfl,?_⟩;have n0_:=aMk (below_step (by repeat first|exact HB.out|apply bwA|apply bwN|apply bw1) hb);clear HB;have HB:=n0_;clear n0_;(try clear hb);(try clear hb2);(try clear hk);(try clear hi)))
         go_meet
         case rel => exact ⟨_,(true),(by first | rfl|(simp;done)|(simp [*];done)|(simp [ne_nil_b];done)|(simp [ne_nil_b, *];done)),H',⟨by have:=HK1.out;first | omega|exact Nat.le_refl _⟩,⟨by repeat (first|(with_reducible first|exact HB.out|apply bwA|apply bwN|apply bw1)|exact HB.out)⟩⟩
       case rest =>
        clear HC6
        try clear c1
        try clear c2
        try clear c2b0
        try clear c2b1
        try clear p2
        try clear q2
        try clear hx2
        try clear c3
        try clear c3b0
        try clear c4
        try clear c4b0
        try clear c5
        try clear c5b0
        try clear c8
        try clear c10
        try clear hx260_0
        try clear hx260_1
        try clear hx260_2
        try clear hx260_3
        try clear hx260_4
        try clear hx260_5
        try clear hx260_6
        try clear hx260_7
        try clear hx260_8
        try clear hx261_0
        try clear hx261_1
        try clear hx261_2
        try clear hx261_3
        try clear hx261_4
        try clear hx261_5
        try clear hx261_6
        try clear hx261_7
        try clear hx261_8
        try clear hx263_0
        try clear hx263_1
        try clear hx263_2
        try clear hx263_3
        try clear hx263_4
        try clear hx263_5
        try clear hx263_6
        try clear hx263_7
        try clear hx263_8
        try clear hx265_0
        try clear hx265_1
        try clear hx265_2
        try clear hx265_3
        try clear hx265_4
        try clear hx265_5
        try clear hx265_6
        try clear hx265_7
        try clear hx265_8
        try clear p2
        try clear p260
        try clear p261
        try clear p263
        try clear p265
        try clear q260
        try clear q261
        try clear q263
        try clear q265
        obtain ⟨kq,x36_5,rfl,HA,HJ5,HB⟩:=hcut
        cases kq with
        | zero => exact absurd HA.out (by simp [impl_FlowsOK.j1])
        | succ kj5 =>
         have H:=HA.out
         clear HA
         simp only [impl_FlowsOK.j1] at H
         by_cases c15 : x36_5 = true
         ·subst c15
          have H1 : (some false) = some r:=by rw [if_pos rfl] at H;exact H
          clear H
          have H:=H1
          clear H1
          obtain rfl:=Option.some.inj H
          go_wp2
          go_ret
          exact ⟨by first | rfl|(simp [errW_none,errW_some] <;> rfl)|(simp [*,errW_none,errW_some] <;> rfl),by repeat (first|(with_reducible first|exact HB.out|apply bwA|apply bwN|apply bw1)|exact HB.out)⟩
         ·replace c15:=Bool.eq_false_iff.mpr c15
          subst c15
          have H1 : (if 0 ≤ x12_1 then (if x12_1 ≤ (l0.length : Int) then (if x12_1 < (l0.length : Int) then ((impl_find.f kj5 (l0.take (x12_1 : Int).toNat) ((rd_T71 l0 x12_1).f0) ((rd_T71 l0 x12_1).f2) ((rd_T71 l0 x12_1).f3) ((rd_T71 l0 x12_1).f4) ((rd_T71 l0 x12_1).f5)).bind fun bt276 => (if bt276.1 ≥ 0 then (some false) else (impl_FlowsOK.l0 kj5 l0 (l0.length : Int) (wrap64 (x12_1 + 1))))) else (none)) else (none)) else (none)) = some r:=by rw [if_neg (show ¬ (false = true) by decide)] at H;exact H
          clear H
          have H:=H1
          clear H1
          by_cases c16 : 0 ≤ x12_1
          ·rw [if_pos c16] at H
           have c16b0:=eq_true c16
           have c16b1 : decide (0 ≤ x12_1) = true:=decide_eq_true c16
           clear c16
           by_cases c17 : x12_1 ≤ (l0.length : Int)
           ·rw [if_pos c17] at H
            have c17b0:=eq_true c17
            have c17b1 : decide (x12_1 ≤ (l0.length : Int)) = true:=decide_eq_true c17
            clear c17
            obtain ⟨y267,hy267⟩ : ∃ y_ : List (S71),y_ = (l0.take (x12_1 : Int).toNat):=⟨_,rfl⟩
            replace H : (if x12_1 < (l0.length : Int) then ((impl_find.f kj5 y267 ((rd_T71 l0 x12_1).f0) ((rd_T71 l0 x12_1).f2) ((rd_T71 l0 x12_1).f3) ((rd_T71 l0 x12_1).f4) ((rd_T71 l0 x12_1).f5)).bind fun bt276 => (if bt276.1 ≥ 0 then (some false) else (impl_FlowsOK.l0 kj5 l0 (l0.length : Int) (wrap64 (x12_1 + 1))))) else (none)) = some r:=by first|(rw [hy267];with_reducible exact H)|(have H2_:=(Option.bind_some _ _).symm.trans H;rw [hy267];with_reducible exact H2_)|(have H2_:=(Option.bind_some _ _).symm.trans H;with_reducible exact H2_) | with_reducible exact H|(rw [hy267];exact H)|exact H
            have Ny267:=aMk hy267
            clear hy267
            by_cases c18 : x12_1 < (l0.length : Int)
            ·rw [if_pos c18] at H
             have c18b0 : decide (x12_1 < (l0.length : Int)) = true:=decide_eq_true c18
             clear c18
             replace H:=Option.bind_eq_some_iff.mp H
             obtain ⟨⟨t276,t277⟩,A190,H⟩:=H
             replace H : (if t276 ≥ 0 then (some false) else (impl_FlowsOK.l0 kj5 l0 (l0.length : Int) (wrap64 (x12_1 + 1)))) = some r:=H
             have A19:=aMk A190
             clear A190
             by_cases c20 : t276 ≥ 0
             ·rw [if_pos c20] at H
              have c20b0 : decide (0 ≤ t276) = true:=decide_eq_true c20
              clear c20
              obtain rfl:=Option.some.inj H
              try go_wp2
              have n0_:=aMk (bw1 HB.out)
              clear HB
              have HB:=n0_
              clear n0_
              have q22 : (x12_1 : Int) ≤ ((l0.length : Int) : Int):=of_decide_eq_true (by first|(with_reducible assumption) | assumption)
              obtain ⟨i022,hi022,_,hsz22,_⟩:=info_parts info71
              have hroom22 : l0.length ≤ c0:=HC0.out
              have hC22 : Kd.C k71 _ (some ad260) l0.length l0:=HR0.out
              have hcut22:=cut_to (P:=Try.prog) 40 71 .i64 Try.underlying40 hi022 (some ad260) l0.length c0 x12_1 (of_decide_eq_true (by first|(with_reducible assumption) | assumption)) q22 hroom22
              have hr22:=Kd.C_take (m:=(x12_1 : Int).toNat) hC22 (by omega)
              have hy22 : y267.length = (x12_1 : Int).toNat:=(by rw [Ny267.out,List.length_take];omega)
              rw [← Ny267.out] at hr22
              rw [← hy22] at hcut22
              have HR270:=aMk hr22
              have HC270:=aMk (show y267.length ≤ c0 from by omega)
              clear hr22 hC22 hroom22 hi022 hsz22
              have KY22:=aMk hy22
              clear hy22
              replace q22:=eq_true q22
              have p271 : 0 ≤ (x12_1 : Int):=of_decide_eq_true (by first|(with_reducible assumption) | assumption)
              have q271 : x12_1 < (l0.length : Int):=of_decide_eq_true (by first|(with_reducible assumption) | assumption)
              obtain ⟨ad271,e271,hx271_0,hx271_1,hx271_2,hx271_3,hx271_4,hx271_5,hx271_6,hx271_7,hx271_8⟩:=at_T71 HR0.out x12_1 p271 q271
              have hw271_8:=hx271_8
              have hw271_7:=hx271_7
              have hw271_6:=hx271_6
              have hw271_5:=hx271_5
              have hw271_4:=hx271_4
              have hw271_3:=hx271_3
              have hw271_2:=hx271_2
              have hw271_1:=hx271_1
              have hw271_0:=hx271_0
              obtain rfl : ad260 = ad271:=(by injection e271)
              replace hx271_0:=(HB.out.cell (wLt w _ hx271_0)).trans hx271_0
              replace hx271_1:=(HB.out.cell (wLt w _ hx271_1)).trans hx271_1
              replace hx271_2:=(HB.out.cell (wLt w _ hx271_2)).trans hx271_2
              replace hx271_3:=(HB.out.cell (wLt w _ hx271_3)).trans hx271_3
              replace hx271_4:=(HB.out.cell (wLt w _ hx271_4)).trans hx271_4
              replace hx271_5:=(HB.out.cell (wLt w _ hx271_5)).trans hx271_5
              replace hx271_6:=(HB.out.cell (wLt w _ hx271_6)).trans hx271_6
              replace hx271_7:=(HB.out.cell (wLt w _ hx271_7)).trans hx271_7
              replace hx271_8:=(HB.out.cell (wLt w _ hx271_8)).trans hx271_8
              replace p271:=eq_true p271
              replace q271:=eq_true q271
              have p272 : 0 ≤ (x12_1 : Int):=of_decide_eq_true (by first|(with_reducible assumption) | assumption)
              have q272 : x12_1 < (l0.length : Int):=of_decide_eq_true (by first|(with_reducible assumption) | assumption)
              obtain ⟨ad272,e272,hx272_0,hx272_1,hx272_2,hx272_3,hx272_4,hx272_5,hx272_6,hx272_7,hx272_8⟩:=at_T71 HR0.out x12_1 p272 q272
              have hw272_8:=hx272_8
              have hw272_7:=hx272_7
              have hw272_6:=hx272_6
              have hw272_5:=hx272_5
              have hw272_4:=hx272_4
              have hw272_3:=hx272_3
              have hw272_2:=hx272_2
              have hw272_1:=hx272_1
              have hw272_0:=hx272_0
              obtain rfl : ad260 = ad272:=(by injection e272)
              replace hx272_0:=(HB.out.cell (wLt w _ hx272_0)).trans hx272_0
              replace hx272_1:=(HB.out.cell (wLt w _ hx272_1)).trans hx272_1
              replace hx272_2:=(HB.out.cell (wLt w _ hx272_2)).trans hx272_2
              replace hx272_3:=(HB.out.cell (wLt w _ hx272_3)).trans hx272_3
              replace hx272_4:=(HB.out.cell (wLt w _ hx272_4)).trans hx272_4
              replace hx272_5:=(HB.out.cell (wLt w _ hx272_5)).trans hx272_5
              replace hx272_6:=(HB.out.cell (wLt w _ hx272_6)).trans hx272_6
              replace hx272_7:=(HB.out.cell (wLt w _ hx272_7)).trans hx272_7
              replace hx272_8:=(HB.out.cell (wLt w _ hx272_8)).trans hx272_8
              replace p272:=eq_true p272
              replace q272:=eq_true q272
              have p273 : 0 ≤ (x12_1 : Int):=of_decide_eq_true (by first|(with_reducible assumption) | assumption)
              have q273 : x12_1 < (l0.length : Int):=of_decide_eq_true (by first|(with_reducible assumption) | assumption)
              obtain ⟨ad273,e273,hx273_0,hx273_1,hx273_2,hx273_3,hx273_4,hx273_5,hx273_6,hx273_7,hx273_8⟩:=at_T71 HR0.out x12_1 p273 q273
              have hw273_8:=hx273_8
              have hw273_7:=hx273_7
              have hw273_6:=hx273_6
              have hw273_5:=hx273_5
              have hw273_4:=hx273_4
              have hw273_3:=hx273_3
              have hw273_2:=hx273_2
              have hw273_1:=hx273_1
              have hw273_0:=hx273_0
              obtain rfl : ad260 = ad273:=(by injection e273)
              replace hx273_0:=(HB.out.cell (wLt w _ hx273_0)).trans hx273_0
              replace hx273_1:=(HB.out.cell (wLt w _ hx273_1)).trans hx273_1
              replace hx273_2:=(HB.out.cell (wLt w _ hx273_2)).trans hx273_2
              replace hx273_3:=(HB.out.cell (wLt w _ hx273_3)).trans hx273_3
              replace hx273_4:=(HB.out.cell (wLt w _ hx273_4)).trans hx273_4
              replace hx273_5:=(HB.out.cell (wLt w _ hx273_5)).trans hx273_5
              replace hx273_6:=(HB.out.cell (wLt w _ hx273_6)).trans hx273_6
              replace hx273_7:=(HB.out.cell (wLt w _ hx273_7)).trans hx273_7
              replace hx273_8:=(HB.out.cell (wLt w _ hx273_8)).trans hx273_8
              replace p273:=eq_true p273
              replace q273:=eq_true q273
              have p274 : 0 ≤ (x12_1 : Int):=of_decide_eq_true (by first|(with_reducible assumption) | assumption)
              have q274 : x12_1 < (l0.length : Int):=of_decide_eq_true (by first|(with_reducible assumption) | assumption)
              obtain ⟨ad274,e274,hx274_0,hx274_1,hx274_2,hx274_3,hx274_4,hx274_5,hx274_6,hx274_7,hx274_8⟩:=at_T71 HR0.out x12_1 p274 q274
              have hw274_8:=hx274_8
              have hw274_7:=hx274_7
              have hw274_6:=hx274_6
              have hw274_5:=hx274_5
              have hw274_4:=hx274_4
              have hw274_3:=hx274_3
              have hw274_2:=hx274_2
              have hw274_1:=hx274_1
              have hw274_0:=hx274_0
              obtain rfl : ad260 = ad274:=(by injection e274)
              replace hx274_0:=(HB.out.cell (wLt w _ hx274_0)).trans hx274_0
              replace hx274_1:=(HB.out.cell (wLt w _ hx274_1)).trans hx274_1
              replace hx274_2:=(HB.out.cell (wLt w _ hx274_2)).trans hx274_2
              replace hx274_3:=(HB.out.cell (wLt w _ hx274_3)).trans hx274_3
              replace hx274_4:=(HB.out.cell (wLt w _ hx274_4)).trans hx274_4
              replace hx274_5:=(HB.out.cell (wLt w _ hx274_5)).trans hx274_5
              replace hx274_6:=(HB.out.cell (wLt w _ hx274_6)).trans hx274_6
              replace hx274_7:=(HB.out.cell (wLt w _ hx274_7)).trans hx274_7
              replace hx274_8:=(HB.out.cell (wLt w _ hx274_8)).trans hx274_8
              replace p274:=eq_true p274
              replace q274:=eq_true q274
              have p275 : 0 ≤ (x12_1 : Int):=of_decide_eq_true (by first|(with_reducible assumption) | assumption)
              have q275 : x12_1 < (l0.length : Int):=of_decide_eq_true (by first|(with_reducible assumption) | assumption)
              obtain ⟨ad275,e275,hx275_0,hx275_1,hx275_2,hx275_3,hx275_4,hx275_5,hx275_6,hx275_7,hx275_8⟩:=at_T71 HR0.out x12_1 p275 q275
              have hw275_8:=hx275_8
              have hw275_7:=hx275_7
              have hw275_6:=hx275_6
              have hw275_5:=hx275_5
              have hw275_4:=hx275_4
              have hw275_3:=hx275_3
              have hw275_2:=hx275_2
              have hw275_1:=hx275_1
              have hw275_0:=hx275_0
              obtain rfl : ad260 = ad275:=(by injection e275)
              replace hx275_0:=(HB.out.cell (wLt w _ hx275_0)).trans hx275_0
              replace hx275_1:=(HB.out.cell (wLt w _ hx275_1)).trans hx275_1
              replace hx275_2:=(HB.out.cell (wLt w _ hx275_2)).trans hx275_2
              replace hx275_3:=(HB.out.cell (wLt w _ hx275_3)).trans hx275_3
              replace hx275_4:=(HB.out.cell (wLt w _ hx275_4)).trans hx275_4
              replace hx275_5:=(HB.out.cell (wLt w _ hx275_5)).trans hx275_5
              replace hx275_6:=(HB.out.cell (wLt w _ hx275_6)).trans hx275_6
              replace hx275_7:=(HB.out.cell (wLt w _ hx275_7)).trans hx275_7
              replace hx275_8:=(HB.out.cell (wLt w _ hx275_8)).trans hx275_8
              replace p275:=eq_true p275
              replace q275:=eq_true q275
              refine start_ (n:=29) (S:=fun w' => w'.cell? (ad260.add ((x12_1).toNat * 9)) = some (.int .i64 ((rd_T71 l0 x12_1).f0)) ∧ w'.cell? ⟨(ad260.add ((x12_1).toNat * 9)).block,(ad260.add ((x12_1).toNat * 9)).off + 1,none⟩ = some (.string ((rd_T71 l0 x12_1).f1)) ∧ w'.cell? ⟨(ad260.add ((x12_1).toNat * 9)).block,(ad260.add ((x12_1).toNat * 9)).off + 2,none⟩ = some (.int .i64 ((rd_T71 l0 x12_1).f2)) ∧ w'.cell? ⟨(ad260.add ((x12_1).toNat * 9)).block,(ad260.add ((x12_1).toNat * 9)).off + 3,none⟩ = some (.int .i64 ((rd_T71 l0 x12_1).f3)) ∧ w'.cell? ⟨(ad260.add ((x12_1).toNat * 9)).block,(ad260.add ((x12_1).toNat * 9)).off + 4,none⟩ = some (.int .i64 ((rd_T71 l0 x12_1).f4)) ∧ w'.cell? ⟨(ad260.add ((x12_1).toNat * 9)).block,(ad260.add ((x12_1).toNat * 9)).off + 5,none⟩ = some (.int .i64 ((rd_T71 l0 x12_1).f5)) ∧ w'.cell? ⟨(ad260.add ((x12_1).toNat * 9)).block,(ad260.add ((x12_1).toNat * 9)).off + 6,none⟩ = some (.int .i64 ((rd_T71 l0 x12_1).f6)) ∧ w'.cell? ⟨(ad260.add ((x12_1).toNat * 9)).block,(ad260.add ((x12_1).toNat * 9)).off + 7,none⟩ = some (.int .i64 ((rd_T71 l0 x12_1).f7)) ∧ w'.cell? ⟨(ad260.add ((x12_1).toNat * 9)).block,(ad260.add ((x12_1).toNat * 9)).off + 8,none⟩ = some (.int .i64 ((rd_T71 l0 x12_1).f8)) ∧ w'.cell? (ad260.add ((x12_1).toNat * 9)) = some (.int .i64 ((rd_T71 l0 x12_1).f0)) ∧ w'.cell? ⟨(ad260.add ((x12_1).toNat * 9)).block,(ad260.add ((x12_1).toNat * 9)).off + 1,none⟩ = some (.string ((rd_T71 l0 x12_1).f1)) ∧ w'.cell? ⟨(ad260.add ((x12_1).toNat * 9)).block,(ad260.add ((x12_1).toNat * 9)).off + 2,none⟩ = some (.int .i64 ((rd_T71 l0 x12_1).f2)) ∧ w'.cell? ⟨(ad260.add ((x12_1).toNat * 9)).block,(ad260.add ((x12_1).toNat * 9)).off + 3,none⟩ = some (.int .i64 ((rd_T71 l0 x12_1).f3)) ∧ w'.cell? ⟨(ad260.add ((x12_1).toNat * 9)).block,(ad260.add ((x12_1).toNat * 9)).off + 4,none⟩ = some (.int .i64 ((rd_T71 l0 x12_1).f4)) ∧ w'.cell? ⟨(ad260.add ((x12_1).toNat * 9)).block,(ad260.add ((x12_1).toNat * 9)).off + 5,none⟩ = some (.int .i64 ((rd_T71 l0 x12_1).f5)) ∧ w'.cell? ⟨(ad260.add ((x12_1).toNat * 9)).block,(ad260.add ((x12_1).toNat * 9)).off + 6,none⟩ = some (.int .i64 ((rd_T71 l0 x12_1).f6)) ∧ w'.cell? ⟨(ad260.add ((x12_1).toNat * 9)).block,(ad260.add ((x12_1).toNat * 9)).off + 7,none⟩ = some (.int .i64 ((rd_T71 l0 x12_1).f7)) ∧ w'.cell? ⟨(ad260.add ((x12_1).toNat * 9)).block,(ad260.add ((x12_1).toNat * 9)).off + 8,none⟩ = some (.int .i64 ((rd_T71 l0 x12_1).f8)) ∧ w'.cell? (ad260.add ((x12_1).toNat * 9)) = some (.int .i64 ((rd_T71 l0 x12_1).f0)) ∧ w'.cell? ⟨(ad260.add ((x12_1).toNat * 9)).block,(ad260.add ((x12_1).toNat * 9)).off + 1,none⟩ = some (.string ((rd_T71 l0 x12_1).f1)) ∧ w'.cell? ⟨(ad260.add ((x12_1).toNat * 9)).block,(ad260.add ((x12_1).toNat * 9)).off + 2,none⟩ = some (.int .i64 ((rd_T71 l0 x12_1).f2)) ∧ w'.cell? ⟨(ad260.add ((x12_1).toNat * 9)).block,(ad260.add ((x12_1).toNat * 9)).off + 3,none⟩ = some (.int .i64 ((rd_T71 l0 x12_1).f3)) ∧ w'.cell? ⟨(ad260.add ((x12_1).toNat * 9)).block,(ad260.add ((x12_1).toNat * 9)).off + 4,none⟩ = some (.int .i64 ((rd_T71 l0 x12_1).f4)) ∧ w'.cell? ⟨(ad260.add ((x12_1).toNat * 9)).block,(ad260.add ((x12_1).toNat * 9)).off + 5,none⟩ = some (.int .i64 ((rd_T71 l0 x12_1).f5)) ∧ w'.cell? ⟨(ad260.add ((x12_1).toNat * 9)).block,(ad260.add ((x12_1).toNat * 9)).off + 6,none⟩ = some (.int .i64 ((rd_T71 l0 x12_1).f6)) ∧ w'.cell? ⟨(ad260.add ((x12_1).toNat * 9)).block,(ad260.add ((x12_1).toNat * 9)).off + 7,none⟩ = some (.int .i64 ((rd_T71 l0 x12_1).f7)) ∧ w'.cell? ⟨(ad260.add ((x12_1).toNat * 9)).block,(ad260.add ((x12_1).toNat * 9)).off + 8,none⟩ = some (.int .i64 ((rd_T71 l0 x12_1).f8)) ∧ w'.cell? (ad260.add ((x12_1).toNat * 9)) = some (.int .i64 ((rd_T71 l0 x12_1).f0)) ∧ w'.cell? ⟨(ad260.add ((x12_1).toNat * 9)).block,(ad260.add ((x12_1).toNat * 9)).off + 1,none⟩ = some (.string ((rd_T71 l0 x12_1).f1)) ∧ w'.cell? ⟨(ad260.add ((x12_1).toNat * 9)).block,(ad260.add ((x12_1).toNat * 9)).off + 2,none⟩ = some (.int .i64 ((rd_T71 l0 x12_1).f2)) ∧ w'.cell? ⟨(ad260.add ((x12_1).toNat * 9)).block,(ad260.add ((x12_1).toNat * 9)).off + 3,none⟩ = some (.int .i64 ((rd_T71 l0 x12_1).f3)) ∧ w'.cell? ⟨(ad260.add ((x12_1).toNat * 9)).block,(ad260.add ((x12_1).toNat * 9)).off + 4,none⟩ = some (.int .i64 ((rd_T71 l0 x12_1).f4)) ∧ w'.cell? ⟨(ad260.add ((x12_1).toNat * 9)).block,(ad260.add ((x12_1).toNat * 9)).off + 5,none⟩ = some (.int .i64 ((rd_T71 l0 x12_1).f5)) ∧ w'.cell? ⟨(ad260.add ((x12_1).toNat * 9)).block,(ad260.add ((x12_1).toNat * 9)).off + 6,none⟩ = some (.int .i64 ((rd_T71 l0 x12_1).f6)) ∧ w'.cell? ⟨(ad260.add ((x12_1).toNat * 9)).block,(ad260.add ((x12_1).toNat * 9)).off + 7,none⟩ = some (.int .i64 ((rd_T71 l0 x12_1).f7)) ∧ w'.cell? ⟨(ad260.add ((x12_1).toNat * 9)).block,(ad260.add ((x12_1).toNat * 9)).off + 8,none⟩ = some (.int .i64 ((rd_T71 l0 x12_1).f8)) ∧ w'.cell? (ad260.add ((x12_1).toNat * 9)) = some (.int .i64 ((rd_T71 l0 x12_1).f0)) ∧ w'.cell? ⟨(ad260.add ((x12_1).toNat * 9)).block,(ad260.add ((x12_1).toNat * 9)).off + 1,none⟩ = some (.string ((rd_T71 l0 x12_1).f1)) ∧ w'.cell? ⟨(ad260.add ((x12_1).toNat * 9)).block,(ad260.add ((x12_1).toNat * 9)).off + 2,none⟩ = some (.int .i64 ((rd_T71 l0 x12_1).f2)) ∧ w'.cell? ⟨(ad260.add ((x12_1).toNat * 9)).block,(ad260.add ((x12_1).toNat * 9)).off + 3,none⟩ = some (.int .i64 ((rd_T71 l0 x12_1).f3)) ∧ w'.cell? ⟨(ad260.add ((x12_1).toNat * 9)).block,(ad260.add ((x12_1).toNat * 9)).off + 4,none⟩ = some (.int .i64 ((rd_T71 l0 x12_1).f4)) ∧ w'.cell? ⟨(ad260.add ((x12_1).toNat * 9)).block,(ad260.add ((x12_1).toNat * 9)).off + 5,none⟩ = some (.int .i64 ((rd_T71 l0 x12_1).f5)) ∧ w'.cell? ⟨(ad260.add ((x12_1).toNat * 9)).block,(ad260.add ((x12_1).toNat * 9)).off + 6,none⟩ = some (.int .i64 ((rd_T71 l0 x12_1).f6)) ∧ w'.cell? ⟨(ad260.add ((x12_1).toNat * 9)).block,(ad260.add ((x12_1).toNat * 9)).off + 7,none⟩ = some (.int .i64 ((rd_T71 l0 x12_1).f7)) ∧ w'.cell? ⟨(ad260.add ((x12_1).toNat * 9)).block,(ad260.add ((x12_1).toNat * 9)).off + 8,none⟩ = some (.int .i64 ((rd_T71 l0 x12_1).f8))) (ds:=[]) #[false,false,false,false,false,false,false,false,false,false,false,false,false,false,false,false,false,false,false,false,false,false,false,false,false,false,false,false,false] (by kernel_rfl) rfl rfl ⟨((HB.out.cell (wLt w _ hw271_0)).trans hw271_0),((HB.out.cell (wLt w _ hw271_1)).trans hw271_1),((HB.out.cell (wLt w _ hw271_2)).trans hw271_2),((HB.out.cell (wLt w _ hw271_3)).trans hw271_3),((HB.out.cell (wLt w _ hw271_4)).trans hw271_4),((HB.out.cell (wLt w _ hw271_5)).trans hw271_5),((HB.out.cell (wLt w _ hw271_6)).trans hw271_6),((HB.out.cell (wLt w _ hw271_7)).trans hw271_7),((HB.out.cell (wLt w _ hw271_8)).trans hw271_8),((HB.out.cell (wLt w _ hw272_0)).trans hw272_0),((HB.out.cell (wLt w _ hw272_1)).trans hw272_1),((HB.out.cell (wLt w _ hw272_2)).trans hw272_2),((HB.out.cell (wLt w _ hw272_3)).trans hw272_3),((HB.out.cell (wLt w _ hw272_4)).trans hw272_4),((HB.out.cell (wLt w _ hw272_5)).trans hw272_5),((HB.out.cell (wLt w _ hw272_6)).trans hw272_6),((HB.out.cell (wLt w _ hw272_7)).trans hw272_7),((HB.out.cell (wLt w _ hw272_8)).trans hw272_8),((HB.out.cell (wLt w _ hw273_0)).trans hw273_0),((HB.out.cell (wLt w _ hw273_1)).trans hw273_1),((HB.out.cell (wLt w _ hw273_2)).trans hw273_2),((HB.out.cell (wLt w _ hw273_3)).trans hw273_3),((HB.out.cell (wLt w _ hw273_4)).trans hw273_4),((HB.out.cell (wLt w _ hw273_5)).trans hw273_5),((HB.out.cell (wLt w _ hw273_6)).trans hw273_6),((HB.out.cell (wLt w _ hw273_7)).trans hw273_7),((HB.out.cell (wLt w _ hw273_8)).trans hw273_8),((HB.out.cell (wLt w _ hw274_0)).trans hw274_0),((HB.out.cell (wLt w _ hw274_1)).trans hw274_1),((HB.out.cell (wLt w _ hw274_2)).trans hw274_2),((HB.out.cell (wLt w _ hw274_3)).trans hw274_3),((HB.out.cell (wLt w _ hw274_4)).trans hw274_4),((HB.out.cell (wLt w _ hw274_5)).trans hw274_5),((HB.out.cell (wLt w _ hw274_6)).trans hw274_6),((HB.out.cell (wLt w _ hw274_7)).trans hw274_7),((HB.out.cell (wLt w _ hw274_8)).trans hw274_8),((HB.out.cell (wLt w _ hw275_0)).trans hw275_0),((HB.out.cell (wLt w _ hw275_1)).trans hw275_1),((HB.out.cell (wLt w _ hw275_2)).trans hw275_2),((HB.out.cell (wLt w _ hw275_3)).trans hw275_3),((HB.out.cell (wLt w _ hw275_4)).trans hw275_4),((HB.out.cell (wLt w _ hw275_5)).trans hw275_5),((HB.out.cell (wLt w _ hw275_6)).trans hw275_6),((HB.out.cell (wLt w _ hw275_7)).trans hw275_7),((HB.out.cell (wLt w _ hw275_8)).trans hw275_8)⟩ (fun hHeld => ?_);refine with_tabW impl_FlowsOK.tab9 impl_FlowsOK.bits9 (fun HT_ HW_ => ?_)
              generalize wc.drew = w21 at HB HR270 hx271_0 hx271_1 hx271_2 hx271_3 hx271_4 hx271_5 hx271_6 hx271_7 hx271_8 hx272_0 hx272_1 hx272_2 hx272_3 hx272_4 hx272_5 hx272_6 hx272_7 hx272_8 hx273_0 hx273_1 hx273_2 hx273_3 hx273_4 hx273_5 hx273_6 hx273_7 hx273_8 hx274_0 hx274_1 hx274_2 hx274_3 hx274_4 hx274_5 hx274_6 hx274_7 hx274_8 hx275_0 hx275_1 hx275_2 hx275_3 hx275_4 hx275_5 hx275_6 hx275_7 hx275_8 hHeld ⊢
              refine pure_ (i:=0) (N:=some 38) (v:=?_) (a':=?_) #[true,false,false,false,false,false,false,false,false,false,false,false,false,false,false,false,false,false,false,false,false,false,false,false,false,false,false,false,false] rfl rfl (any_of HT_.out (by kernel_rfl)) (fun _ _ _ h => h) (Or.inl ⟨by rfl,?_⟩) ?_ ?_
              rotate_left
              ·intro w'
               go_simp
               with_reducible rfl
              rotate_left
              ·simp only [Act.put,List.setIfInBounds_toArray,List.set_cons_zero,List.set_cons_succ,i64_w,i32_w]
               rfl
              refine pure_ (i:=1) (N:=some 39) (v:=?_) (a':=?_) #[true,true,false,false,false,false,false,false,false,false,false,false,false,false,false,false,false,false,false,false,false,false,false,false,false,false,false,false,false] rfl rfl (any_of HT_.out (by kernel_rfl)) (fun _ _ _ h => h) (Or.inl ⟨by rfl,?_⟩) ?_ ?_
              rotate_left
              ·intro w'
               go_simp
               with_reducible rfl
              rotate_left
              ·simp only [Act.put,List.setIfInBounds_toArray,List.set_cons_zero,List.set_cons_succ,i64_w,i32_w]
               rfl
              refine pure_ (i:=2) (N:=some 40) (v:=?_) (a':=?_) #[true,true,true,false,false,false,false,false,false,false,false,false,false,false,false,false,false,false,false,false,false,false,false,false,false,false,false,false,false] rfl rfl (any_of HT_.out (by kernel_rfl)) (fun _ _ _ h => h) (Or.inl ⟨by rfl,?_⟩) ?_ ?_
              rotate_left
              ·intro w'
               go_simp
               with_reducible rfl
              rotate_left
              ·simp only [Act.put,List.setIfInBounds_toArray,List.set_cons_zero,List.set_cons_succ,i64_w,i32_w]
               rfl
              refine pure_ (i:=3) (N:=some 41) (v:=?_) (a':=?_) #[true,true,true,true,false,false,false,false,false,false,false,false,false,false,false,false,false,false,false,false,false,false,false,false,false,false,false,false,false] rfl rfl (any_of HT_.out (by kernel_rfl)) (fun _ _ _ h => h) (Or.inl ⟨by rfl,?_⟩) ?_ ?_
              rotate_left
              ·intro w'
               go_simp
               with_reducible rfl
              rotate_left
              ·simp only [Act.put,List.setIfInBounds_toArray,List.set_cons_zero,List.set_cons_succ,i64_w,i32_w]
               rfl
              refine pure_ (i:=4) (N:=some 42) (v:=?_) (a':=?_) #[true,true,true,true,true,false,false,false,false,false,false,false,false,false,false,false,false,false,false,false,false,false,false,false,false,false,false,false,false] rfl rfl (any_of HT_.out (by kernel_rfl)) (fun _ _ _ h => h) (Or.inl ⟨by rfl,?_⟩) ?_ ?_
              rotate_left
              ·intro w'
               go_simp
               with_reducible rfl
              rotate_left
              ·simp only [Act.put,List.setIfInBounds_toArray,List.set_cons_zero,List.set_cons_succ,i64_w,i32_w]
               rfl
              refine pure_ (i:=5) (N:=some 43) (v:=?_) (a':=?_) #[true,true,true,true,true,true,false,false,false,false,false,false,false,false,false,false,false,false,false,false,false,false,false,false,false,false,false,false,false] rfl rfl (any_of HT_.out (by kernel_rfl)) (fun _ _ _ h => h) (Or.inl ⟨by rfl,?_⟩) ?_ ?_
              rotate_left
              ·intro w'
               go_simp
               with_reducible rfl
              rotate_left
              ·simp only [Act.put,List.setIfInBounds_toArray,List.set_cons_zero,List.set_cons_succ,i64_w,i32_w]
               rfl
              refine pure_ (i:=7) (N:=some 45) (v:=?_) (a':=?_) #[true,true,true,true,true,true,false,true,false,false,false,false,false,false,false,false,false,false,false,false,false,false,false,false,false,false,false,false,false] rfl rfl (any_of HT_.out (by kernel_rfl)) (fun _ _ _ h => h) (Or.inl ⟨by rfl,?_⟩) ?_ ?_
              rotate_left
              ·intro w'
               go_simp
               with_reducible rfl
              rotate_left
              ·simp only [Act.put,List.setIfInBounds_toArray,List.set_cons_zero,List.set_cons_succ,i64_w,i32_w]
               rfl
              refine pure_ (i:=8) (N:=some 46) (v:=?_) (a':=?_) #[true,true,true,true,true,true,false,true,true,false,false,false,false,false,false,false,false,false,false,false,false,false,false,false,false,false,false,false,false] rfl rfl (any_of HT_.out (by kernel_rfl)) (fun _ _ _ h => h) (Or.inl ⟨by rfl,?_⟩) ?_ ?_
              rotate_left
              ·intro w'
               go_simp
               with_reducible rfl
              rotate_left
              ·simp only [Act.put,List.setIfInBounds_toArray,List.set_cons_zero,List.set_cons_succ,i64_w,i32_w]
               rfl
              refine pure_ (i:=9) (N:=some 47) (v:=?_) (a':=?_) #[true,true,true,true,true,true,false,true,true,true,false,false,false,false,false,false,false,false,false,false,false,false,false,false,false,false,false,false,false] rfl rfl (any_of HT_.out (by kernel_rfl)) (fun _ _ _ h => h) (Or.inl ⟨by rfl,?_⟩) ?_ ?_
              rotate_left
              ·intro w'
               go_simp
               with_reducible rfl
              rotate_left
              ·simp only [Act.put,List.setIfInBounds_toArray,List.set_cons_zero,List.set_cons_succ,i64_w,i32_w]
               rfl
              refine pure_ (i:=11) (N:=some 49) (v:=?_) (a':=?_) #[true,true,true,true,true,true,false,true,true,true,false,true,false,false,false,false,false,false,false,false,false,false,false,false,false,false,false,false,false] rfl rfl (any_of HT_.out (by kernel_rfl)) (fun _ _ _ h => h) (Or.inl ⟨by rfl,?_⟩) ?_ ?_
              rotate_left
              ·intro w'
               go_simp
               with_reducible rfl
              rotate_left
              ·simp only [Act.put,List.setIfInBounds_toArray,List.set_cons_zero,List.set_cons_succ,i64_w,i32_w]
               rfl
              refine pure_ (i:=12) (N:=some 50) (v:=?_) (a':=?_) #[true,true,true,true,true,true,false,true,true,true,false,true,true,false,false,false,false,false,false,false,false,false,false,false,false,false,false,false,false] rfl rfl (any_of HT_.out (by kernel_rfl)) (fun _ _ _ h => h) (Or.inl ⟨by rfl,?_⟩) ?_ ?_
              rotate_left
              ·intro w'
               go_simp
               with_reducible rfl
              rotate_left
              ·simp only [Act.put,List.setIfInBounds_toArray,List.set_cons_zero,List.set_cons_succ,i64_w,i32_w]
               rfl
              refine pure_ (i:=13) (N:=some 51) (v:=?_) (a':=?_) #[true,true,true,true,true,true,false,true,true,true,false,true,true,true,false,false,false,false,false,false,false,false,false,false,false,false,false,false,false] rfl rfl (any_of HT_.out (by kernel_rfl)) (fun _ _ _ h => h) (Or.inl ⟨by rfl,?_⟩) ?_ ?_
              rotate_left
              ·intro w'
               go_simp
               with_reducible rfl
              rotate_left
              ·simp only [Act.put,List.setIfInBounds_toArray,List.set_cons_zero,List.set_cons_succ,i64_w,i32_w]
               rfl
              refine pure_ (i:=15) (N:=some 53) (v:=?_) (a':=?_) #[true,true,true,true,true,true,false,true,true,true,false,true,true,true,false,true,false,false,false,false,false,false,false,false,false,false,false,false,false] rfl rfl (any_of HT_.out (by kernel_rfl)) (fun _ _ _ h => h) (Or.inl ⟨by rfl,?_⟩) ?_ ?_
              rotate_left
              ·intro w'
               go_simp
               with_reducible rfl
              rotate_left
              ·simp only [Act.put,List.setIfInBounds_toArray,List.set_cons_zero,List.set_cons_succ,i64_w,i32_w]
               rfl
              refine pure_ (i:=16) (N:=some 54) (v:=?_) (a':=?_) #[true,true,true,true,true,true,false,true,true,true,false,true,true,true,false,true,true,false,false,false,false,false,false,false,false,false,false,false,false] rfl rfl (any_of HT_.out (by kernel_rfl)) (fun _ _ _ h => h) (Or.inl ⟨by rfl,?_⟩) ?_ ?_
              rotate_left
              ·intro w'
               go_simp
               with_reducible rfl
              rotate_left
              ·simp only [Act.put,List.setIfInBounds_toArray,List.set_cons_zero,List.set_cons_succ,i64_w,i32_w]
               rfl
              refine pure_ (i:=17) (N:=some 55) (v:=?_) (a':=?_) #[true,true,true,true,true,true,false,true,true,true,false,true,true,true,false,true,true,true,false,false,false,false,false,false,false,false,false,false,false] rfl rfl (any_of HT_.out (by kernel_rfl)) (fun _ _ _ h => h) (Or.inl ⟨by rfl,?_⟩) ?_ ?_
              rotate_left
              ·intro w'
               go_simp
               with_reducible rfl
              rotate_left
              ·simp only [Act.put,List.setIfInBounds_toArray,List.set_cons_zero,List.set_cons_succ,i64_w,i32_w]
               rfl
              refine pure_ (i:=19) (N:=some 57) (v:=?_) (a':=?_) #[true,true,true,true,true,true,false,true,true,true,false,true,true,true,false,true,true,true,false,true,false,false,false,false,false,false,false,false,false] rfl rfl (any_of HT_.out (by kernel_rfl)) (fun _ _ _ h => h) (Or.inl ⟨by rfl,?_⟩) ?_ ?_
              rotate_left
              ·intro w'
               go_simp
               with_reducible rfl
              rotate_left
              ·simp only [Act.put,List.setIfInBounds_toArray,List.set_cons_zero,List.set_cons_succ,i64_w,i32_w]
               rfl
              refine pure_ (i:=20) (N:=some 58) (v:=?_) (a':=?_) #[true,true,true,true,true,true,false,true,true,true,false,true,true,true,false,true,true,true,false,true,true,false,false,false,false,false,false,false,false] rfl rfl (any_of HT_.out (by kernel_rfl)) (fun _ _ _ h => h) (Or.inl ⟨by rfl,?_⟩) ?_ ?_
              rotate_left
              ·intro w'
               go_simp
               with_reducible rfl
              rotate_left
              ·simp only [Act.put,List.setIfInBounds_toArray,List.set_cons_zero,List.set_cons_succ,i64_w,i32_w]
               rfl
              refine pure_ (i:=21) (N:=some 59) (v:=?_) (a':=?_) #[true,true,true,true,true,true,false,true,true,true,false,true,true,true,false,true,true,true,false,true,true,true,false,false,false,false,false,false,false] rfl rfl (any_of HT_.out (by kernel_rfl)) (fun _ _ _ h => h) (Or.inl ⟨by rfl,?_⟩) ?_ ?_
              rotate_left
              ·intro w'
               go_simp
               with_reducible rfl
              rotate_left
              ·simp only [Act.put,List.setIfInBounds_toArray,List.set_cons_zero,List.set_cons_succ,i64_w,i32_w]
               rfl
              refine take_ (i:=6) (N:=some 44) (v:=?_) (a':=?_) #[true,true,true,true,true,true,true,true,true,true,false,true,true,true,false,true,true,true,false,true,true,true,false,false,false,false,false,false,false] rfl rfl (take_ofW HT_.out HW_.out (by kernel_rfl)) (fun _ _ _ h => h) (Or.inl ⟨by rfl,?_⟩) hHeld ?_ ?_
              rotate_left
              ·rintro w' ⟨s0,s1,s2,s3,s4,s5,s6,s7,s8,s9,s10,s11,s12,s13,s14,s15,s16,s17,s18,s19,s20,s21,s22,s23,s24,s25,s26,s27,s28,s29,s30,s31,s32,s33,s34,s35,s36,s37,s38,s39,s40,s41,s42,s43,s44⟩
               go_simp
               with_reducible rfl
              rotate_left
              ·simp only [Act.put,List.setIfInBounds_toArray,List.set_cons_zero,List.set_cons_succ,i64_w,i32_w]
               rfl
              refine take_ (i:=10) (N:=some 48) (v:=?_) (a':=?_) #[true,true,true,true,true,true,true,true,true,true,true,true,true,true,false,true,true,true,false,true,true,true,false,false,false,false,false,false,false] rfl rfl (take_ofW HT_.out HW_.out (by kernel_rfl)) (fun _ _ _ h => h) (Or.inl ⟨by rfl,?_⟩) hHeld ?_ ?_
              rotate_left
              ·rintro w' ⟨s0,s1,s2,s3,s4,s5,s6,s7,s8,s9,s10,s11,s12,s13,s14,s15,s16,s17,s18,s19,s20,s21,s22,s23,s24,s25,s26,s27,s28,s29,s30,s31,s32,s33,s34,s35,s36,s37,s38,s39,s40,s41,s42,s43,s44⟩
               go_simp
               with_reducible rfl
              rotate_left
              ·simp only [Act.put,List.setIfInBounds_toArray,List.set_cons_zero,List.set_cons_succ,i64_w,i32_w]
               rfl
              refine take_ (i:=14) (N:=some 52) (v:=?_) (a':=?_) #[true,true,true,true,true,true,true,true,true,true,true,true,true,true,true,true,true,true,false,true,true,true,false,false,false,false,false,false,false] rfl rfl (take_ofW HT_.out HW_.out (by kernel_rfl)) (fun _ _ _ h => h) (Or.inl ⟨by rfl,?_⟩) hHeld ?_ ?_
              rotate_left
              ·rintro w' ⟨s0,s1,s2,s3,s4,s5,s6,s7,s8,s9,s10,s11,s12,s13,s14,s15,s16,s17,s18,s19,s20,s21,s22,s23,s24,s25,s26,s27,s28,s29,s30,s31,s32,s33,s34,s35,s36,s37,s38,s39,s40,s41,s42,s43,s44⟩
               go_simp
               with_reducible rfl
              rotate_left
              ·simp only [Act.put,List.setIfInBounds_toArray,List.set_cons_zero,List.set_cons_succ,i64_w,i32_w]
               rfl
              refine take_ (i:=18) (N:=some 56) (v:=?_) (a':=?_) #[true,true,true,true,true,true,true,true,true,true,true,true,true,true,true,true,true,true,true,true,true,true,false,false,false,false,false,false,false] rfl rfl (take_ofW HT_.out HW_.out (by kernel_rfl)) (fun _ _ _ h => h) (Or.inl ⟨by rfl,?_⟩) hHeld ?_ ?_
              rotate_left
              ·rintro w' ⟨s0,s1,s2,s3,s4,s5,s6,s7,s8,s9,s10,s11,s12,s13,s14,s15,s16,s17,s18,s19,s20,s21,s22,s23,s24,s25,s26,s27,s28,s29,s30,s31,s32,s33,s34,s35,s36,s37,s38,s39,s40,s41,s42,s43,s44⟩
               go_simp
               with_reducible rfl
              rotate_left
              ·simp only [Act.put,List.setIfInBounds_toArray,List.set_cons_zero,List.set_cons_succ,i64_w,i32_w]
               rfl
              refine take_ (i:=22) (N:=some 60) (v:=?_) (a':=?_) #[true,true,true,true,true,true,true,true,true,true,true,true,true,true,true,true,true,true,true,true,true,true,true,false,false,false,false,false,false] rfl rfl (take_ofW HT_.out HW_.out (by kernel_rfl)) (fun _ _ _ h => h) (Or.inl ⟨by rfl,?_⟩) hHeld ?_ ?_
              rotate_left
              ·rintro w' ⟨s0,s1,s2,s3,s4,s5,s6,s7,s8,s9,s10,s11,s12,s13,s14,s15,s16,s17,s18,s19,s20,s21,s22,s23,s24,s25,s26,s27,s28,s29,s30,s31,s32,s33,s34,s35,s36,s37,s38,s39,s40,s41,s42,s43,s44⟩
               go_simp
               with_reducible rfl
              rotate_left
              ·simp only [Act.put,List.setIfInBounds_toArray,List.set_cons_zero,List.set_cons_succ,i64_w,i32_w]
               rfl
              refine one_ (i:=23) (N:=some 61) #[true,true,true,true,true,true,true,true,true,true,true,true,true,true,true,true,true,true,true,true,true,true,true,true,false,false,false,false,false] rfl rfl (one_of HT_.out (by kernel_rfl)) (by decide) (fun K hK => ?_)
              refine goes_ Try.func78 (by kernel_rfl) rfl #[.slice (some ad260) y267.length c0,.int .i64 ((rd_T71 l0 x12_1).f0),.int .i64 ((rd_T71 l0 x12_1).f2),.int .i64 ((rd_T71 l0 x12_1).f3),.int .i64 ((rd_T71 l0 x12_1).f4),.int .i64 ((rd_T71 l0 x12_1).f5)] (by rfl) rfl rfl (by (try simp only [List.map_toArray,List.map_cons,List.map_nil]);first | done | rfl|(simp only [List.length_drop,List.length_take];rfl)) ?_
              with_reducible refine (impl_find.calls kj5 _ _ y267 ((rd_T71 l0 x12_1).f0) ((rd_T71 l0 x12_1).f2) ((rd_T71 l0 x12_1).f3) ((rd_T71 l0 x12_1).f4) ((rd_T71 l0 x12_1).f5) t276 t277 _ ?side1 ?side2 A19.out).mono ?_
              (case side1 => repeat (first|exact (Kd.C_below HR270.out HB.out)|(with_reducible refine Kd.C_alloc ?_ _)|(with_reducible refine Kd.C_drewN ?_ _)|(with_reducible refine Kd.C_drew ?_)))
              (case side2 => exact HC270.out)
              rintro e w23 ⟨rfl,hb⟩
              refine ⟨_,rfl,?_⟩
              have n0_:=aMk (below_step (by repeat first|exact HB.out|apply bwA|apply bwN|apply bw1) hb)
              clear HB
              have HB:=n0_
              clear n0_
              (try clear hb)
              (try clear hb2)
              (try clear hk)
              (try clear hi)
              refine hK.out _ _ ⟨((HB.out.cell (wLt w _ hw271_0)).trans hw271_0),((HB.out.cell (wLt w _ hw271_1)).trans hw271_1),((HB.out.cell (wLt w _ hw271_2)).trans hw271_2),((HB.out.cell (wLt w _ hw271_3)).trans hw271_3),((HB.out.cell (wLt w _ hw271_4)).trans hw271_4),((HB.out.cell (wLt w _ hw271_5)).trans hw271_5),((HB.out.cell (wLt w _ hw271_6)).trans hw271_6),((HB.out.cell (wLt w _ hw271_7)).trans hw271_7),((HB.out.cell (wLt w _ hw271_8)).trans hw271_8),((HB.out.cell (wLt w _ hw272_0)).trans hw272_0),((HB.out.cell (wLt w _ hw272_1)).trans hw272_1),((HB.out.cell (wLt w _ hw272_2)).trans hw272_2),((HB.out.cell (wLt w _ hw272_3)).trans hw272_3),((HB.out.cell (wLt w _ hw272_4)).trans hw272_4),((HB.out.cell (wLt w _ hw272_5)).trans hw272_5),((HB.out.cell (wLt w _ hw272_6)).trans hw272_6),((HB.out.cell (wLt w _ hw272_7)).trans hw272_7),((HB.out.cell (wLt w _ hw272_8)).trans hw272_8),((HB.out.cell (wLt w _ hw273_0)).trans hw273_0),((HB.out.cell (wLt w _ hw273_1)).trans hw273_1),((HB.out.cell (wLt w _ hw273_2)).trans hw273_2),((HB.out.cell (wLt w _ hw273_3)).trans hw273_3),((HB.out.cell (wLt w _ hw273_4)).trans hw273_4),((HB.out.cell (wLt w _ hw273_5)).trans hw273_5),((HB.out.cell (wLt w _ hw273_6)).trans hw273_6),((HB.out.cell (wLt w _ hw273_7)).trans hw273_7),((HB.out.cell (wLt w _ hw273_8)).trans hw273_8),((HB.out.cell (wLt w _ hw274_0)).trans hw274_0),((HB.out.cell (wLt w _ hw274_1)).trans hw274_1),((HB.out.cell (wLt w _ hw274_2)).trans hw274_2),((HB.out.cell (wLt w _ hw274_3)).trans hw274_3),((HB.out.cell (wLt w _ hw274_4)).trans hw274_4),((HB.out.cell (wLt w _ hw274_5)).trans hw274_5),((HB.out.cell (wLt w _ hw274_6)).trans hw274_6),((HB.out.cell (wLt w _ hw274_7)).trans hw274_7),((HB.out.cell (wLt w _ hw274_8)).trans hw274_8),((HB.out.cell (wLt w _ hw275_0)).trans hw275_0),((HB.out.cell (wLt w _ hw275_1)).trans hw275_1),((HB.out.cell (wLt w _ hw275_2)).trans hw275_2),((HB.out.cell (wLt w _ hw275_3)).trans hw275_3),((HB.out.cell (wLt w _ hw275_4)).trans hw275_4),((HB.out.cell (wLt w _ hw275_5)).trans hw275_5),((HB.out.cell (wLt w _ hw275_6)).trans hw275_6),((HB.out.cell (wLt w _ hw275_7)).trans hw275_7),((HB.out.cell (wLt w _ hw275_8)).trans hw275_8)⟩ (fun hHeld => ?_)
              clear hK K
              refine norm_ (a':=?_) ?_ ?_
              rotate_left
              ·show Act.put _ (some 61) _ = _
               simp only [Act.put,List.setIfInBounds_toArray,List.set_cons_zero,List.set_cons_succ,i64_w,i32_w]
               rfl
              refine pure_ (i:=24) (N:=some 37) (v:=?_) (a':=?_) #[true,true,true,true,true,true,true,true,true,true,true,true,true,true,true,true,true,true,true,true,true,true,true,true,true,false,false,false,false] rfl rfl (any_of HT_.out (by kernel_rfl)) (fun _ _ _ h => h) (Or.inl ⟨by rfl,?_⟩) ?_ ?_
              rotate_left
              ·intro w'
               go_simp
               with_reducible rfl
              rotate_left
              ·simp only [Act.put,List.setIfInBounds_toArray,List.set_cons_zero,List.set_cons_succ,i64_w,i32_w]
               rfl
              refine pure_ (i:=25) (N:=some 62) (v:=?_) (a':=?_) #[true,true,true,true,true,true,true,true,true,true,true,true,true,true,true,true,true,true,true,true,true,true,true,true,true,true,false,false,false] rfl rfl (any_of HT_.out (by kernel_rfl)) (fun _ _ _ h => h) (Or.inl ⟨by rfl,?_⟩) ?_ ?_
              rotate_left
              ·intro w'
               go_simp
               with_reducible rfl
              rotate_left
              ·simp only [Act.put,List.setIfInBounds_toArray,List.set_cons_zero,List.set_cons_succ,i64_w,i32_w]
               rfl
              refine pure_ (i:=26) (N:=some 63) (v:=?_) (a':=?_) #[true,true,true,true,true,true,true,true,true,true,true,true,true,true,true,true,true,true,true,true,true,true,true,true,true,true,true,false,false] rfl rfl (any_of HT_.out (by kernel_rfl)) (fun _ _ _ h => h) (Or.inl ⟨by rfl,?_⟩) ?_ ?_
              rotate_left
              ·intro w'
               go_simp
               with_reducible rfl
              rotate_left
              ·simp only [Act.put,List.setIfInBounds_toArray,List.set_cons_zero,List.set_cons_succ,i64_w,i32_w]
               rfl
              refine pure_ (i:=27) (N:=some 5) (v:=?_) (a':=?_) #[true,true,true,true,true,true,true,true,true,true,true,true,true,true,true,true,true,true,true,true,true,true,true,true,true,true,true,true,false] rfl rfl (any_of HT_.out (by kernel_rfl)) (fun _ _ _ h => h) (Or.inl ⟨by rfl,?_⟩) ?_ ?_
              rotate_left
              ·intro w'
               go_simp
               with_reducible rfl
              rotate_left
              ·simp only [Act.put,List.setIfInBounds_toArray,List.set_cons_zero,List.set_cons_succ,i64_w,i32_w]
               rfl
              refine pure_ (i:=28) (N:=some 6) (v:=?_) (a':=?_) #[true,true,true,true,true,true,true,true,true,true,true,true,true,true,true,true,true,true,true,true,true,true,true,true,true,true,true,true,true] rfl rfl (any_of HT_.out (by kernel_rfl)) (fun _ _ _ h => h) (Or.inl ⟨by rfl,?_⟩) ?_ ?_
              rotate_left
              ·intro w'
               go_simp
               with_reducible rfl
              rotate_left
              ·simp only [Act.put,List.setIfInBounds_toArray,List.set_cons_zero,List.set_cons_succ,i64_w,i32_w]
               rfl
              refine done_ (done_of HT_.out (by kernel_rfl)) ?_
              try go_wp2
              go_ret
              exact ⟨by first | rfl|(simp [errW_none,errW_some] <;> rfl)|(simp [*,errW_none,errW_some] <;> rfl),by repeat (first|(with_reducible first|exact HB.out|apply bwA|apply bwN|apply bw1)|exact HB.out)⟩
             ·rw [if_neg c20] at H
              have c20b0 : decide (0 ≤ t276) = false:=decide_eq_false c20
              clear c20
              have H':=aMk H
              clear H
              try go_wp2
              have n0_:=aMk (bw1 HB.out)
              clear HB
              have HB:=n0_
              clear n0_
              have q25 : (x12_1 : Int) ≤ ((l0.length : Int) : Int):=of_decide_eq_true (by first|(with_reducible assumption) | assumption)
              obtain ⟨i025,hi025,_,hsz25,_⟩:=info_parts info71
              have hroom25 : l0.length ≤ c0:=HC0.out
              have hC25 : Kd.C k71 _ (some ad260) l0.length l0:=HR0.out
              have hcut25:=cut_to (P:=Try.prog) 40 71 .i64 Try.underlying40 hi025 (some ad260) l0.length c0 x12_1 (of_decide_eq_true (by first|(with_reducible assumption) | assumption)) q25 hroom25
              have hr25:=Kd.C_take (m:=(x12_1 : Int).toNat) hC25 (by omega)
              have hy25 : y267.length = (x12_1 : Int).toNat:=(by rw [Ny267.out,List.length_take];omega)
              rw [← Ny267.out] at hr25
              rw [← hy25] at hcut25
              have HR270:=aMk hr25
              have HC270:=aMk (show y267.length ≤ c0 from by omega)
              clear hr25 hC25 hroom25 hi025 hsz25
              have KY25:=aMk hy25
              clear hy25
              replace q25:=eq_true q25
              have p271 : 0 ≤ (x12_1 : Int):=of_decide_eq_true (by first|(with_reducible assumption) | assumption)
              have q271 : x12_1 < (l0.length : Int):=of_decide_eq_true (by first|(with_reducible assumption) | assumption)
              obtain ⟨ad271,e271,hx271_0,hx271_1,hx271_2,hx271_3,hx271_4,hx271_5,hx271_6,hx271_7,hx271_8⟩:=at_T71 HR0.out x12_1 p271 q271
              have hw271_8:=hx271_8
              have hw271_7:=hx271_7
              have hw271_6:=hx271_6
              have hw271_5:=hx271_5
              have hw271_4:=hx271_4
              have hw271_3:=hx271_3
              have hw271_2:=hx271_2
              have hw271_1:=hx271_1
              have hw271_0:=hx271_0
              obtain rfl : ad260 = ad271:=(by injection e271)
              replace hx271_0:=(HB.out.cell (wLt w _ hx271_0)).trans hx271_0
              replace hx271_1:=(HB.out.cell (wLt w _ hx271_1)).trans hx271_1
              replace hx271_2:=(HB.out.cell (wLt w _ hx271_2)).trans hx271_2
              replace hx271_3:=(HB.out.cell (wLt w _ hx271_3)).trans hx271_3
              replace hx271_4:=(HB.out.cell (wLt w _ hx271_4)).trans hx271_4
              replace hx271_5:=(HB.out.cell (wLt w _ hx271_5)).trans hx271_5
              replace hx271_6:=(HB.out.cell (wLt w _ hx271_6)).trans hx271_6
              replace hx271_7:=(HB.out.cell (wLt w _ hx271_7)).trans hx271_7
              replace hx271_8:=(HB.out.cell (wLt w _ hx271_8)).trans hx271_8
              replace p271:=eq_true p271
              replace q271:=eq_true q271
              have p272 : 0 ≤ (x12_1 : Int):=of_decide_eq_true (by first|(with_reducible assumption) | assumption)
              have q272 : x12_1 < (l0.length : Int):=of_decide_eq_true (by first|(with_reducible assumption) | assumption)
              obtain ⟨ad272,e272,hx272_0,hx272_1,hx272_2,hx272_3,hx272_4,hx272_5,hx272_6,hx272_7,hx272_8⟩:=at_T71 HR0.out x12_1 p272 q272
              have hw272_8:=hx272_8
              have hw272_7:=hx272_7
              have hw272_6:=hx272_6
              have hw272_5:=hx272_5
              have hw272_4:=hx272_4
              have hw272_3:=hx272_3
              have hw272_2:=hx272_2
              have hw272_1:=hx272_1
              have hw272_0:=hx272_0
              obtain rfl : ad260 = ad272:=(by injection e272)
              replace hx272_0:=(HB.out.cell (wLt w _ hx272_0)).trans hx272_0
              replace hx272_1:=(HB.out.cell (wLt w _ hx272_1)).trans hx272_1
              replace hx272_2:=(HB.out.cell (wLt w _ hx272_2)).trans hx272_2
              replace hx272_3:=(HB.out.cell (wLt w _ hx272_3)).trans hx272_3
              replace hx272_4:=(HB.out.cell (wLt w _ hx272_4)).trans hx272_4
              replace hx272_5:=(HB.out.cell (wLt w _ hx272_5)).trans hx272_5
              replace hx272_6:=(HB.out.cell (wLt w _ hx272_6)).trans hx272_6
              replace hx272_7:=(HB.out.cell (wLt w _ hx272_7)).trans hx272_7
              replace hx272_8:=(HB.out.cell (wLt w _ hx272_8)).trans hx272_8
              replace p272:=eq_true p272
              replace q272:=eq_true q272
              have p273 : 0 ≤ (x12_1 : Int):=of_decide_eq_true (by first|(with_reducible assumption) | assumption)
              have q273 : x12_1 < (l0.length : Int):=of_decide_eq_true (by first|(with_reducible assumption) | assumption)
              obtain ⟨ad273,e273,hx273_0,hx273_1,hx273_2,hx273_3,hx273_4,hx273_5,hx273_6,hx273_7,hx273_8⟩:=at_T71 HR0.out x12_1 p273 q273
              have hw273_8:=hx273_8
              have hw273_7:=hx273_7
              have hw273_6:=hx273_6
              have hw273_5:=hx273_5
              have hw273_4:=hx273_4
              have hw273_3:=hx273_3
              have hw273_2:=hx273_2
              have hw273_1:=hx273_1
              have hw273_0:=hx273_0
              obtain rfl : ad260 = ad273:=(by injection e273)
              replace hx273_0:=(HB.out.cell (wLt w _ hx273_0)).trans hx273_0
              replace hx273_1:=(HB.out.cell (wLt w _ hx273_1)).trans hx273_1
              replace hx273_2:=(HB.out.cell (wLt w _ hx273_2)).trans hx273_2
              replace hx273_3:=(HB.out.cell (wLt w _ hx273_3)).trans hx273_3
              replace hx273_4:=(HB.out.cell (wLt w _ hx273_4)).trans hx273_4
              replace hx273_5:=(HB.out.cell (wLt w _ hx273_5)).trans hx273_5
              replace hx273_6:=(HB.out.cell (wLt w _ hx273_6)).trans hx273_6
              replace hx273_7:=(HB.out.cell (wLt w _ hx273_7)).trans hx273_7
              replace hx273_8:=(HB.out.cell (wLt w _ hx273_8)).trans hx273_8
              replace p273:=eq_true p273
              replace q273:=eq_true q273
              have p274 : 0 ≤ (x12_1 : Int):=of_decide_eq_true (by first|(with_reducible assumption) | assumption)
              have q274 : x12_1 < (l0.length : Int):=of_decide_eq_true (by first|(with_reducible assumption) | assumption)
              obtain ⟨ad274,e274,hx274_0,hx274_1,hx274_2,hx274_3,hx274_4,hx274_5,hx274_6,hx274_7,hx274_8⟩:=at_T71 HR0.out x12_1 p274 q274
              have hw274_8:=hx274_8
              have hw274_7:=hx274_7
              have hw274_6:=hx274_6
              have hw274_5:=hx274_5
              have hw274_4:=hx274_4
              have hw274_3:=hx274_3
              have hw274_2:=hx274_2
              have hw274_1:=hx274_1
              have hw274_0:=hx274_0
              obtain rfl : ad260 = ad274:=(by injection e274)
              replace hx274_0:=(HB.out.cell (wLt w _ hx274_0)).trans hx274_0
              replace hx274_1:=(HB.out.cell (wLt w _ hx274_1)).trans hx274_1
              replace hx274_2:=(HB.out.cell (wLt w _ hx274_2)).trans hx274_2
              replace hx274_3:=(HB.out.cell (wLt w _ hx274_3)).trans hx274_3
              replace hx274_4:=(HB.out.cell (wLt w _ hx274_4)).trans hx274_4
              replace hx274_5:=(HB.out.cell (wLt w _ hx274_5)).trans hx274_5
              replace hx274_6:=(HB.out.cell (wLt w _ hx274_6)).trans hx274_6
              replace hx274_7:=(HB.out.cell (wLt w _ hx274_7)).trans hx274_7
              replace hx274_8:=(HB.out.cell (wLt w _ hx274_8)).trans hx274_8
              replace p274:=eq_true p274
              replace q274:=eq_true q274
              have p275 : 0 ≤ (x12_1 : Int):=of_decide_eq_true (by first|(with_reducible assumption) | assumption)
              have q275 : x12_1 < (l0.length : Int):=of_decide_eq_true (by first|(with_reducible assumption) | assumption)
              obtain ⟨ad275,e275,hx275_0,hx275_1,hx275_2,hx275_3,hx275_4,hx275_5,hx275_6,hx275_7,hx275_8⟩:=at_T71 HR0.out x12_1 p275 q275
              have hw275_8:=hx275_8
              have hw275_7:=hx275_7
              have hw275_6:=hx275_6
              have hw275_5:=hx275_5
              have hw275_4:=hx275_4
              have hw275_3:=hx275_3
              have hw275_2:=hx275_2
              have hw275_1:=hx275_1
              have hw275_0:=hx275_0
              obtain rfl : ad260 = ad275:=(by injection e275)
              replace hx275_0:=(HB.out.cell (wLt w _ hx275_0)).trans hx275_0
              replace hx275_1:=(HB.out.cell (wLt w _ hx275_1)).trans hx275_1
              replace hx275_2:=(HB.out.cell (wLt w _ hx275_2)).trans hx275_2
              replace hx275_3:=(HB.out.cell (wLt w _ hx275_3)).trans hx275_3
              replace hx275_4:=(HB.out.cell (wLt w _ hx275_4)).trans hx275_4
              replace hx275_5:=(HB.out.cell (wLt w _ hx275_5)).trans hx275_5
              replace hx275_6:=(HB.out.cell (wLt w _ hx275_6)).trans hx275_6
              replace hx275_7:=(HB.out.cell (wLt w _ hx275_7)).trans hx275_7
              replace hx275_8:=(HB.out.cell (wLt w _ hx275_8)).trans hx275_8
              replace p275:=eq_true p275
              replace q275:=eq_true q275
              refine start_ (n:=29) (S:=fun w' => w'.cell? (ad260.add ((x12_1).toNat * 9)) = some (.int .i64 ((rd_T71 l0 x12_1).f0)) ∧ w'.cell? ⟨(ad260.add ((x12_1).toNat * 9)).block,(ad260.add ((x12_1).toNat * 9)).off + 1,none⟩ = some (.string ((rd_T71 l0 x12_1).f1)) ∧ w'.cell? ⟨(ad260.add ((x12_1).toNat * 9)).block,(ad260.add ((x12_1).toNat * 9)).off + 2,none⟩ = some (.int .i64 ((rd_T71 l0 x12_1).f2)) ∧ w'.cell? ⟨(ad260.add ((x12_1).toNat * 9)).block,(ad260.add ((x12_1).toNat * 9)).off + 3,none⟩ = some (.int .i64 ((rd_T71 l0 x12_1).f3)) ∧ w'.cell? ⟨(ad260.add ((x12_1).toNat * 9)).block,(ad260.add ((x12_1).toNat * 9)).off + 4,none⟩ = some (.int .i64 ((rd_T71 l0 x12_1).f4)) ∧ w'.cell? ⟨(ad260.add ((x12_1).toNat * 9)).block,(ad260.add ((x12_1).toNat * 9)).off + 5,none⟩ = some (.int .i64 ((rd_T71 l0 x12_1).f5)) ∧ w'.cell? ⟨(ad260.add ((x12_1).toNat * 9)).block,(ad260.add ((x12_1).toNat * 9)).off + 6,none⟩ = some (.int .i64 ((rd_T71 l0 x12_1).f6)) ∧ w'.cell? ⟨(ad260.add ((x12_1).toNat * 9)).block,(ad260.add ((x12_1).toNat * 9)).off + 7,none⟩ = some (.int .i64 ((rd_T71 l0 x12_1).f7)) ∧ w'.cell? ⟨(ad260.add ((x12_1).toNat * 9)).block,(ad260.add ((x12_1).toNat * 9)).off + 8,none⟩ = some (.int .i64 ((rd_T71 l0 x12_1).f8)) ∧ w'.cell? (ad260.add ((x12_1).toNat * 9)) = some (.int .i64 ((rd_T71 l0 x12_1).f0)) ∧ w'.cell? ⟨(ad260.add ((x12_1).toNat * 9)).block,(ad260.add ((x12_1).toNat * 9)).off + 1,none⟩ = some (.string ((rd_T71 l0 x12_1).f1)) ∧ w'.cell? ⟨(ad260.add ((x12_1).toNat * 9)).block,(ad260.add ((x12_1).toNat * 9)).off + 2,none⟩ = some (.int .i64 ((rd_T71 l0 x12_1).f2)) ∧ w'.cell? ⟨(ad260.add ((x12_1).toNat * 9)).block,(ad260.add ((x12_1).toNat * 9)).off + 3,none⟩ = some (.int .i64 ((rd_T71 l0 x12_1).f3)) ∧ w'.cell? ⟨(ad260.add ((x12_1).toNat * 9)).block,(ad260.add ((x12_1).toNat * 9)).off + 4,none⟩ = some (.int .i64 ((rd_T71 l0 x12_1).f4)) ∧ w'.cell? ⟨(ad260.add ((x12_1).toNat * 9)).block,(ad260.add ((x12_1).toNat * 9)).off + 5,none⟩ = some (.int .i64 ((rd_T71 l0 x12_1).f5)) ∧ w'.cell? ⟨(ad260.add ((x12_1).toNat * 9)).block,(ad260.add ((x12_1).toNat * 9)).off + 6,none⟩ = some (.int .i64 ((rd_T71 l0 x12_1).f6)) ∧ w'.cell? ⟨(ad260.add ((x12_1).toNat * 9)).block,(ad260.add ((x12_1).toNat * 9)).off + 7,none⟩ = some (.int .i64 ((rd_T71 l0 x12_1).f7)) ∧ w'.cell? ⟨(ad260.add ((x12_1).toNat * 9)).block,(ad260.add ((x12_1).toNat * 9)).off + 8,none⟩ = some (.int .i64 ((rd_T71 l0 x12_1).f8)) ∧ w'.cell? (ad260.add ((x12_1).toNat * 9)) = some (.int .i64 ((rd_T71 l0 x12_1).f0)) ∧ w'.cell? ⟨(ad260.add ((x12_1).toNat * 9)).block,(ad260.add ((x12_1).toNat * 9)).off + 1,none⟩ = some (.string ((rd_T71 l0 x12_1).f1)) ∧ w'.cell? ⟨(ad260.add ((x12_1).toNat * 9)).block,(ad260.add ((x12_1).toNat * 9)).off + 2,none⟩ = some (.int .i64 ((rd_T71 l0 x12_1).f2)) ∧ w'.cell? ⟨(ad260.add ((x12_1).toNat * 9)).block,(ad260.add ((x12_1).toNat * 9)).off + 3,none⟩ = some (.int .i64 ((rd_T71 l0 x12_1).f3)) ∧ w'.cell? ⟨(ad260.add ((x12_1).toNat * 9)).block,(ad260.add ((x12_1).toNat * 9)).off + 4,none⟩ = some (.int .i64 ((rd_T71 l0 x12_1).f4)) ∧ w'.cell? ⟨(ad260.add ((x12_1).toNat * 9)).block,(ad260.add ((x12_1).toNat * 9)).off + 5,none⟩ = some (.int .i64 ((rd_T71 l0 x12_1).f5)) ∧ w'.cell? ⟨(ad260.add ((x12_1).toNat * 9)).block,(ad260.add ((x12_1).toNat * 9)).off + 6,none⟩ = some (.int .i64 ((rd_T71 l0 x12_1).f6)) ∧ w'.cell? ⟨(ad260.add ((x12_1).toNat * 9)).block,(ad260.add ((x12_1).toNat * 9)).off + 7,none⟩ = some (.int .i64 ((rd_T71 l0 x12_1).f7)) ∧ w'.cell? ⟨(ad260.add ((x12_1).toNat * 9)).block,(ad260.add ((x12_1).toNat * 9)).off + 8,none⟩ = some (.int .i64 ((rd_T71 l0 x12_1).f8)) ∧ w'.cell? (ad260.add ((x12_1).toNat * 9)) = some (.int .i64 ((rd_T71 l0 x12_1).f0)) ∧ w'.cell? ⟨(ad260.add ((x12_1).toNat * 9)).block,(ad260.add ((x12_1).toNat * 9)).off + 1,none⟩ = some (.string ((rd_T71 l0 x12_1).f1)) ∧ w'.cell? ⟨(ad260.add ((x12_1).toNat * 9)).block,(ad260.add ((x12_1).toNat * 9)).off + 2,none⟩ = some (.int .i64 ((rd_T71 l0 x12_1).f2)) ∧ w'.cell? ⟨(ad260.add ((x12_1).toNat * 9)).block,(ad260.add ((x12_1).toNat * 9)).off + 3,none⟩ = some (.int .i64 ((rd_T71 l0 x12_1).f3)) ∧ w'.cell? ⟨(ad260.add ((x12_1).toNat * 9)).block,(ad260.add ((x12_1).toNat * 9)).off + 4,none⟩ = some (.int .i64 ((rd_T71 l0 x12_1).f4)) ∧ w'.cell? ⟨(ad260.add ((x12_1).toNat * 9)).block,(ad260.add ((x12_1).toNat * 9)).off + 5,none⟩ = some (.int .i64 ((rd_T71 l0 x12_1).f5)) ∧ w'.cell? ⟨(ad260.add ((x12_1).toNat * 9)).block,(ad260.add ((x12_1).toNat * 9)).off + 6,none⟩ = some (.int .i64 ((rd_T71 l0 x12_1).f6)) ∧ w'.cell? ⟨(ad260.add ((x12_1).toNat * 9)).block,(ad260.add ((x12_1).toNat * 9)).off + 7,none⟩ = some (.int .i64 ((rd_T71 l0 x12_1).f7)) ∧ w'.cell? ⟨(ad260.add ((x12_1).toNat * 9)).block,(ad260.add ((x12_1).toNat * 9)).off + 8,none⟩ = some (.int .i64 ((rd_T71 l0 x12_1).f8)) ∧ w'.cell? (ad260.add ((x12_1).toNat * 9)) = some (.int .i64 ((rd_T71 l0 x12_1).f0)) ∧ w'.cell? ⟨(ad260.add ((x12_1).toNat * 9)).block,(ad260.add ((x12_1).toNat * 9)).off + 1,none⟩ = some (.string ((rd_T71 l0 x12_1).f1)) ∧ w'.cell? ⟨(ad260.add ((x12_1).toNat * 9)).block,(ad260.add ((x12_1).toNat * 9)).off + 2,none⟩ = some (.int .i64 ((rd_T71 l0 x12_1).f2)) ∧ w'.cell? ⟨(ad260.add ((x12_1).toNat * 9)).block,(ad260.add ((x12_1).toNat * 9)).off + 3,none⟩ = some (.int .i64 ((rd_T71 l0 x12_1).f3)) ∧ w'.cell? ⟨(ad260.add ((x12_1).toNat * 9)).block,(ad260.add ((x12_1).toNat * 9)).off + 4,none⟩ = some (.int .i64 ((rd_T71 l0 x12_1).f4)) ∧ w'.cell? ⟨(ad260.add ((x12_1).toNat * 9)).block,(ad260.add ((x12_1).toNat * 9)).off + 5,none⟩ = some (.int .i64 ((rd_T71 l0 x12_1).f5)) ∧ w'.cell? ⟨(ad260.add ((x12_1).toNat * 9)).block,(ad260.add ((x12_1).toNat * 9)).off + 6,none⟩ = some (.int .i64 ((rd_T71 l0 x12_1).f6)) ∧ w'.cell? ⟨(ad260.add ((x12_1).toNat * 9)).block,(ad260.add ((x12_1).toNat * 9)).off + 7,none⟩ = some (.int .i64 ((rd_T71 l0 x12_1).f7)) ∧ w'.cell? ⟨(ad260.add ((x12_1).toNat * 9)).block,(ad260.add ((x12_1).toNat * 9)).off + 8,none⟩ = some (.int .i64 ((rd_T71 l0 x12_1).f8))) (ds:=[]) #[false,false,false,false,false,false,false,false,false,false,false,false,false,false,false,false,false,false,false,false,false,false,false,false,false,false,false,false,false] (by kernel_rfl) rfl rfl ⟨((HB.out.cell (wLt w _ hw271_0)).trans hw271_0),((HB.out.cell (wLt w _ hw271_1)).trans hw271_1),((HB.out.cell (wLt w _ hw271_2)).trans hw271_2),((HB.out.cell (wLt w _ hw271_3)).trans hw271_3),((HB.out.cell (wLt w _ hw271_4)).trans hw271_4),((HB.out.cell (wLt w _ hw271_5)).trans hw271_5),((HB.out.cell (wLt w _ hw271_6)).trans hw271_6),((HB.out.cell (wLt w _ hw271_7)).trans hw271_7),((HB.out.cell (wLt w _ hw271_8)).trans hw271_8),((HB.out.cell (wLt w _ hw272_0)).trans hw272_0),((HB.out.cell (wLt w _ hw272_1)).trans hw272_1),((HB.out.cell (wLt w _ hw272_2)).trans hw272_2),((HB.out.cell (wLt w _ hw272_3)).trans hw272_3),((HB.out.cell (wLt w _ hw272_4)).trans hw272_4),((HB.out.cell (wLt w _ hw272_5)).trans hw272_5),((HB.out.cell (wLt w _ hw272_6)).trans hw272_6),((HB.out.cell (wLt w _ hw272_7)).trans hw272_7),((HB.out.cell (wLt w _ hw272_8)).trans hw272_8),((HB.out.cell (wLt w _ hw273_0)).trans hw273_0),((HB.out.cell (wLt w _ hw273_1)).trans hw273_1),((HB.out.cell (wLt w _ hw273_2)).trans hw273_2),((HB.out.cell (wLt w _ hw273_3)).trans hw273_3),((HB.out.cell (wLt w _ hw273_4)).trans hw273_4),((HB.out.cell (wLt w _ hw273_5)).trans hw273_5),((HB.out.cell (wLt w _ hw273_6)).trans hw273_6),((HB.out.cell (wLt w _ hw273_7)).trans hw273_7),((HB.out.cell (wLt w _ hw273_8)).trans hw273_8),((HB.out.cell (wLt w _ hw274_0)).trans hw274_0),((HB.out.cell (wLt w _ hw274_1)).trans hw274_1),((HB.out.cell (wLt w _ hw274_2)).trans hw274_2),((HB.out.cell (wLt w _ hw274_3)).trans hw274_3),((HB.out.cell (wLt w _ hw274_4)).trans hw274_4),((HB.out.cell (wLt w _ hw274_5)).trans hw274_5),((HB.out.cell (wLt w _ hw274_6)).trans hw274_6),((HB.out.cell (wLt w _ hw274_7)).trans hw274_7),((HB.out.cell (wLt w _ hw274_8)).trans hw274_8),((HB.out.cell (wLt w _ hw275_0)).trans hw275_0),((HB.out.cell (wLt w _ hw275_1)).trans hw275_1),((HB.out.cell (wLt w _ hw275_2)).trans hw275_2),((HB.out.cell (wLt w _ hw275_3)).trans hw275_3),((HB.out.cell (wLt w _ hw275_4)).trans hw275_4),((HB.out.cell (wLt w _ hw275_5)).trans hw275_5),((HB.out.cell (wLt w _ hw275_6)).trans hw275_6),((HB.out.cell (wLt w _ hw275_7)).trans hw275_7),((HB.out.cell (wLt w _ hw275_8)).trans hw275_8)⟩ (fun hHeld => ?_);refine with_tabW impl_FlowsOK.tab9 impl_FlowsOK.bits9 (fun HT_ HW_ => ?_)
              generalize wc.drew = w24 at HB HR270 hx271_0 hx271_1 hx271_2 hx271_3 hx271_4 hx271_5 hx271_6 hx271_7 hx271_8 hx272_0 hx272_1 hx272_2 hx272_3 hx272_4 hx272_5 hx272_6 hx272_7 hx272_8 hx273_0 hx273_1 hx273_2 hx273_3 hx273_4 hx273_5 hx273_6 hx273_7 hx273_8 hx274_0 hx274_1 hx274_2 hx274_3 hx274_4 hx274_5 hx274_6 hx274_7 hx274_8 hx275_0 hx275_1 hx275_2 hx275_3 hx275_4 hx275_5 hx275_6 hx275_7 hx275_8 hHeld ⊢
              refine pure_ (i:=0) (N:=some 38) (v:=?_) (a':=?_) #[true,false,false,false,false,false,false,false,false,false,false,false,false,false,false,false,false,false,false,false,false,false,false,false,false,false,false,false,false] rfl rfl (any_of HT_.out (by kernel_rfl)) (fun _ _ _ h => h) (Or.inl ⟨by rfl,?_⟩) ?_ ?_
              rotate_left
              ·intro w'
               go_simp
               with_reducible rfl
              rotate_left
              ·simp only [Act.put,List.setIfInBounds_toArray,List.set_cons_zero,List.set_cons_succ,i64_w,i32_w]
               rfl
              refine pure_ (i:=1) (N:=some 39) (v:=?_) (a':=?_) #[true,true,false,false,false,false,false,false,false,false,false,false,false,false,false,false,false,false,false,false,false,false,false,false,false,false,false,false,false] rfl rfl (any_of HT_.out (by kernel_rfl)) (fun _ _ _ h => h) (Or.inl ⟨by rfl,?_⟩) ?_ ?_
              rotate_left
              ·intro w'
               go_simp
               with_reducible rfl
              rotate_left
              ·simp only [Act.put,List.setIfInBounds_toArray,List.set_cons_zero,List.set_cons_succ,i64_w,i32_w]
               rfl
              refine pure_ (i:=2) (N:=some 40) (v:=?_) (a':=?_) #[true,true,true,false,false,false,false,false,false,false,false,false,false,false,false,false,false,false,false,false,false,false,false,false,false,false,false,false,false] rfl rfl (any_of HT_.out (by kernel_rfl)) (fun _ _ _ h => h) (Or.inl ⟨by rfl,?_⟩) ?_ ?_
              rotate_left
              ·intro w'
               go_simp
               with_reducible rfl
              rotate_left
              ·simp only [Act.put,List.setIfInBounds_toArray,List.set_cons_zero,List.set_cons_succ,i64_w,i32_w]
               rfl
              refine pure_ (i:=3) (N:=some 41) (v:=?_) (a':=?_) #[true,true,true,true,false,false,false,false,false,false,false,false,false,false,false,false,false,false,false,false,false,false,false,false,false,false,false,false,false] rfl rfl (any_of HT_.out (by kernel_rfl)) (fun _ _ _ h => h) (Or.inl ⟨by rfl,?_⟩) ?_ ?_
              rotate_left
              ·intro w'
               go_simp
               with_reducible rfl
              rotate_left
              ·simp only [Act.put,List.setIfInBounds_toArray,List.set_cons_zero,List.set_cons_succ,i64_w,i32_w]
               rfl
              refine pure_ (i:=4) (N:=some 42) (v:=?_) (a':=?_) #[true,true,true,true,true,false,false,false,false,false,false,false,false,false,false,false,false,false,false,false,false,false,false,false,false,false,false,false,false] rfl rfl (any_of HT_.out (by kernel_rfl)) (fun _ _ _ h => h) (Or.inl ⟨by rfl,?_⟩) ?_ ?_
              rotate_left
              ·intro w'
               go_simp
               with_reducible rfl
              rotate_left
              ·simp only [Act.put,List.setIfInBounds_toArray,List.set_cons_zero,List.set_cons_succ,i64_w,i32_w]
               rfl
              refine pure_ (i:=5) (N:=some 43) (v:=?_) (a':=?_) #[true,true,true,true,true,true,false,false,false,false,false,false,false,false,false,false,false,false,false,false,false,false,false,false,false,false,false,false,false] rfl rfl (any_of HT_.out (by kernel_rfl)) (fun _ _ _ h => h) (Or.inl ⟨by rfl,?_⟩) ?_ ?_
              rotate_left
              ·intro w'
               go_simp
               with_reducible rfl
              rotate_left
              ·simp only [Act.put,List.setIfInBounds_toArray,List.set_cons_zero,List.set_cons_succ,i64_w,i32_w]
               rfl
              refine pure_ (i:=7) (N:=some 45) (v:=?_) (a':=?_) #[true,true,true,true,true,true,false,true,false,false,false,false,false,false,false,false,false,false,false,false,false,false,false,false,false,false,false,false,false] rfl rfl (any_of HT_.out (by kernel_rfl)) (fun _ _ _ h => h) (Or.inl ⟨by rfl,?_⟩) ?_ ?_
              rotate_left
              ·intro w'
               go_simp
               with_reducible rfl
              rotate_left
              ·simp only [Act.put,List.setIfInBounds_toArray,List.set_cons_zero,List.set_cons_succ,i64_w,i32_w]
               rfl
              refine pure_ (i:=8) (N:=some 46) (v:=?_) (a':=?_) #[true,true,true,true,true,true,false,true,true,false,false,false,false,false,false,false,false,false,false,false,false,false,false,false,false,false,false,false,false] rfl rfl (any_of HT_.out (by kernel_rfl)) (fun _ _ _ h => h) (Or.inl ⟨by rfl,?_⟩) ?_ ?_
              rotate_left
              ·intro w'
               go_simp
               with_reducible rfl
              rotate_left
              ·simp only [Act.put,List.setIfInBounds_toArray,List.set_cons_zero,List.set_cons_succ,i64_w,i32_w]
               rfl
              refine pure_ (i:=9) (N:=some 47) (v:=?_) (a':=?_) #[true,true,true,true,true,true,false,true,true,true,false,false,false,false,false,false,false,false,false,false,false,false,false,false,false,false,false,false,false] rfl rfl (any_of HT_.out (by kernel_rfl)) (fun _ _ _ h => h) (Or.inl ⟨by rfl,?_⟩) ?_ ?_
              rotate_left
              ·intro w'
               go_simp
               with_reducible rfl
              rotate_left
              ·simp only [Act.put,List.setIfInBounds_toArray,List.set_cons_zero,List.set_cons_succ,i64_w,i32_w]
               rfl
              refine pure_ (i:=11) (N:=some 49) (v:=?_) (a':=?_) #[true,true,true,true,true,true,false,true,true,true,false,true,false,false,false,false,false,false,false,false,false,false,false,false,false,false,false,false,false] rfl rfl (any_of HT_.out (by kernel_rfl)) (fun _ _ _ h => h) (Or.inl ⟨by rfl,?_⟩) ?_ ?_
              rotate_left
              ·intro w'
               go_simp
               with_reducible rfl
              rotate_left
              ·simp only [Act.put,List.setIfInBounds_toArray,List.set_cons_zero,List.set_cons_succ,i64_w,i32_w]
               rfl
              refine pure_ (i:=12) (N:=some 50) (v:=?_) (a':=?_) #[true,true,true,true,true,true,false,true,true,true,false,true,true,false,false,false,false,false,false,false,false,false,false,false,false,false,false,false,false] rfl rfl (any_of HT_.out (by kernel_rfl)) (fun _ _ _ h => h) (Or.inl ⟨by rfl,?_⟩) ?_ ?_
              rotate_left
              ·intro w'
               go_simp
               with_reducible rfl
              rotate_left
              ·simp only [Act.put,List.setIfInBounds_toArray,List.set_cons_zero,List.set_cons_succ,i64_w,i32_w]
               rfl
              refine pure_ (i:=13) (N:=some 51) (v:=?_) (a':=?_) #[true,true,true,true,true,true,false,true,true,true,false,true,true,true,false,false,false,false,false,false,false,false,false,false,false,false,false,false,false] rfl rfl (any_of HT_.out (by kernel_rfl)) (fun _ _ _ h => h) (Or.inl ⟨by rfl,?_⟩) ?_ ?_
              rotate_left
              ·intro w'
               go_simp
               with_reducible rfl
              rotate_left
              ·simp only [Act.put,List.setIfInBounds_toArray,List.set_cons_zero,List.set_cons_succ,i64_w,i32_w]
               rfl
              refine pure_ (i:=15) (N:=some 53) (v:=?_) (a':=?_) #[true,true,true,true,true,true,false,true,true,true,false,true,true,true,false,true,false,false,false,false,false,false,false,false,false,false,false,false,false] rfl rfl (any_of HT_.out (by kernel_rfl)) (fun _ _ _ h => h) (Or.inl ⟨by rfl,?_⟩) ?_ ?_
              rotate_left
              ·intro w'
               go_simp
               with_reducible rfl
              rotate_left
              ·simp only [Act.put,List.setIfInBounds_toArray,List.set_cons_zero,List.set_cons_succ,i64_w,i32_w]
               rfl
              refine pure_ (i:=16) (N:=some 54) (v:=?_) (a':=?_) #[true,true,true,true,true,true,false,true,true,true,false,true,true,true,false,true,true,false,false,false,false,false,false,false,false,false,false,false,false] rfl rfl (any_of HT_.out (by kernel_rfl)) (fun _ _ _ h => h) (Or.inl ⟨by rfl,?_⟩) ?_ ?_
              rotate_left
              ·intro w'
               go_simp
               with_reducible rfl
              rotate_left
              ·simp only [Act.put,List.setIfInBounds_toArray,List.set_cons_zero,List.set_cons_succ,i64_w,i32_w]
               rfl
              refine pure_ (i:=17) (N:=some 55) (v:=?_) (a':=?_) #[true,true,true,true,true,true,false,true,true,true,false,true,true,true,false,true,true,true,false,false,false,false,false,false,false,false,false,false,false] rfl rfl (any_of HT_.out (by kernel_rfl)) (fun _ _ _ h => h) (Or.inl ⟨by rfl,?_⟩) ?_ ?_
              rotate_left
              ·intro w'
               go_simp
               with_reducible rfl
              rotate_left
              ·simp only [Act.put,List.setIfInBounds_toArray,List.set_cons_zero,List.set_cons_succ,i64_w,i32_w]
               rfl
              refine pure_ (i:=19) (N:=some 57) (v:=?_) (a':=?_) #[true,true,true,true,true,true,false,true,true,true,false,true,true,true,false,true,true,true,false,true,false,false,false,false,false,false,false,false,false] rfl rfl (any_of HT_.out (by kernel_rfl)) (fun _ _ _ h => h) (Or.inl ⟨by rfl,?_⟩) ?_ ?_
              rotate_left
              ·intro w'
               go_simp
               with_reducible rfl
              rotate_left
              ·simp only [Act.put,List.setIfInBounds_toArray,List.set_cons_zero,List.set_cons_succ,i64_w,i32_w]
               rfl
              refine pure_ (i:=20) (N:=some 58) (v:=?_) (a':=?_) #[true,true,true,true,true,true,false,true,true,true,false,true,true,true,false,true,true,true,false,true,true,false,false,false,false,false,false,false,false] rfl rfl (any_of HT_.out (by kernel_rfl)) (fun _ _ _ h => h) (Or.inl ⟨by rfl,?_⟩) ?_ ?_
              rotate_left
              ·intro w'
               go_simp
               with_reducible rfl
              rotate_left
              ·simp only [Act.put,List.setIfInBounds_toArray,List.set_cons_zero,List.set_cons_succ,i64_w,i32_w]
               rfl
              refine pure_ (i:=21) (N:=some 59) (v:=?_) (a':=?_) #[true,true,true,true,true,true,false,true,true,true,false,true,true,true,false,true,true,true,false,true,true,true,false,false,false,false,false,false,false] rfl rfl (any_of HT_.out (by kernel_rfl)) (fun _ _ _ h => h) (Or.inl ⟨by rfl,?_⟩) ?_ ?_
              rotate_left
              ·intro w'
               go_simp
               with_reducible rfl
              rotate_left
              ·simp only [Act.put,List.setIfInBounds_toArray,List.set_cons_zero,List.set_cons_succ,i64_w,i32_w]
               rfl
              refine take_ (i:=6) (N:=some 44) (v:=?_) (a':=?_) #[true,true,true,true,true,true,true,true,true,true,false,true,true,true,false,true,true,true,false,true,true,true,false,false,false,false,false,false,false] rfl rfl (take_ofW HT_.out HW_.out (by kernel_rfl)) (fun _ _ _ h => h) (Or.inl ⟨by rfl,?_⟩) hHeld ?_ ?_
              rotate_left
              ·rintro w' ⟨s0,s1,s2,s3,s4,s5,s6,s7,s8,s9,s10,s11,s12,s13,s14,s15,s16,s17,s18,s19,s20,s21,s22,s23,s24,s25,s26,s27,s28,s29,s30,s31,s32,s33,s34,s35,s36,s37,s38,s39,s40,s41,s42,s43,s44⟩
               go_simp
               with_reducible rfl
              rotate_left
              ·simp only [Act.put,List.setIfInBounds_toArray,List.set_cons_zero,List.set_cons_succ,i64_w,i32_w]
               rfl
              refine take_ (i:=10) (N:=some 48) (v:=?_) (a':=?_) #[true,true,true,true,true,true,true,true,true,true,true,true,true,true,false,true,true,true,false,true,true,true,false,false,false,false,false,false,false] rfl rfl (take_ofW HT_.out HW_.out (by kernel_rfl)) (fun _ _ _ h => h) (Or.inl ⟨by rfl,?_⟩) hHeld ?_ ?_
              rotate_left
              ·rintro w' ⟨s0,s1,s2,s3,s4,s5,s6,s7,s8,s9,s10,s11,s12,s13,s14,s15,s16,s17,s18,s19,s20,s21,s22,s23,s24,s25,s26,s27,s28,s29,s30,s31,s32,s33,s34,s35,s36,s37,s38,s39,s40,s41,s42,s43,s44⟩
               go_simp
               with_reducible rfl
              rotate_left
              ·simp only [Act.put,List.setIfInBounds_toArray,List.set_cons_zero,List.set_cons_succ,i64_w,i32_w]
               rfl
              refine take_ (i:=14) (N:=some 52) (v:=?_) (a':=?_) #[true,true,true,true,true,true,true,true,true,true,true,true,true,true,true,true,true,true,false,true,true,true,false,false,false,false,false,false,false] rfl rfl (take_ofW HT_.out HW_.out (by kernel_rfl)) (fun _ _ _ h => h) (Or.inl ⟨by rfl,?_⟩) hHeld ?_ ?_
              rotate_left
              ·rintro w' ⟨s0,s1,s2,s3,s4,s5,s6,s7,s8,s9,s10,s11,s12,s13,s14,s15,s16,s17,s18,s19,s20,s21,s22,s23,s24,s25,s26,s27,s28,s29,s30,s31,s32,s33,s34,s35,s36,s37,s38,s39,s40,s41,s42,s43,s44⟩
               go_simp
               with_reducible rfl
              rotate_left
              ·simp only [Act.put,List.setIfInBounds_toArray,List.set_cons_zero,List.set_cons_succ,i64_w,i32_w]
               rfl
              refine take_ (i:=18) (N:=some 56) (v:=?_) (a':=?_) #[true,true,true,true,true,true,true,true,true,true,true,true,true,true,true,true,true,true,true,true,true,true,false,false,false,false,false,false,false] rfl rfl (take_ofW HT_.out HW_.out (by kernel_rfl)) (fun _ _ _ h => h) (Or.inl ⟨by rfl,?_⟩) hHeld ?_ ?_
              rotate_left
              ·rintro w' ⟨s0,s1,s2,s3,s4,s5,s6,s7,s8,s9,s10,s11,s12,s13,s14,s15,s16,s17,s18,s19,s20,s21,s22,s23,s24,s25,s26,s27,s28,s29,s30,s31,s32,s33,s34,s35,s36,s37,s38,s39,s40,s41,s42,s43,s44⟩
               go_simp
               with_reducible rfl
              rotate_left
              ·simp only [Act.put,List.setIfInBounds_toArray,List.set_cons_zero,List.set_cons_succ,i64_w,i32_w]
               rfl
              refine take_ (i:=22) (N:=some 60) (v:=?_) (a':=?_) #[true,true,true,true,true,true,true,true,true,true,true,true,true,true,true,true,true,true,true,true,true,true,true,false,false,false,false,false,false] rfl rfl (take_ofW HT_.out HW_.out (by kernel_rfl)) (fun _ _ _ h => h) (Or.inl ⟨by rfl,?_⟩) hHeld ?_ ?_
              rotate_left
              ·rintro w' ⟨s0,s1,s2,s3,s4,s5,s6,s7,s8,s9,s10,s11,s12,s13,s14,s15,s16,s17,s18,s19,s20,s21,s22,s23,s24,s25,s26,s27,s28,s29,s30,s31,s32,s33,s34,s35,s36,s37,s38,s39,s40,s41,s42,s43,s44⟩
               go_simp
               with_reducible rfl
              rotate_left
              ·simp only [Act.put,List.setIfInBounds_toArray,List.set_cons_zero,List.set_cons_succ,i64_w,i32_w]
               rfl
              refine one_ (i:=23) (N:=some 61) #[true,true,true,true,true,true,true,true,true,true,true,true,true,true,true,true,true,true,true,true,true,true,true,true,false,false,false,false,false] rfl rfl (one_of HT_.out (by kernel_rfl)) (by decide) (fun K hK => ?_)
              refine goes_ Try.func78 (by kernel_rfl) rfl #[.slice (some ad260) y267.length c0,.int .i64 ((rd_T71 l0 x12_1).f0),.int .i64 ((rd_T71 l0 x12_1).f2),.int .i64 ((rd_T71 l0 x12_1).f3),.int .i64 ((rd_T71 l0 x12_1).f4),.int .i64 ((rd_T71 l0 x12_1).f5)] (by rfl) rfl rfl (by (try simp only [List.map_toArray,List.map_cons,List.map_nil]);first | done | rfl|(simp only [List.length_drop,List.length_take];rfl)) ?_
              with_reducible refine (impl_find.calls kj5 _ _ y267 ((rd_T71 l0 x12_1).f0) ((rd_T71 l0 x12_1).f2) ((rd_T71 l0 x12_1).f3) ((rd_T71 l0 x12_1).f4) ((rd_T71 l0 x12_1).f5) t276 t277 _ ?side1 ?side2 A19.out).mono ?_
              (case side1 => repeat (first|exact (Kd.C_below HR270.out HB.out)|(with_reducible refine Kd.C_alloc ?_ _)|(with_reducible refine Kd.C_drewN ?_ _)|(with_reducible refine Kd.C_drew ?_)))
              (case side2 => exact HC270.out)
              rintro e w26 ⟨rfl,hb⟩
              refine ⟨_,rfl,?_⟩
              have n0_:=aMk (below_step (by repeat first|exact HB.out|apply bwA|apply bwN|apply bw1) hb)
              clear HB
              have HB:=n0_
              clear n0_
              (try clear hb)
              (try clear hb2)
              (try clear hk)
              (try clear hi)
              refine hK.out _ _ ⟨((HB.out.cell (wLt w _ hw271_0)).trans hw271_0),((HB.out.cell (wLt w _ hw271_1)).trans hw271_1),((HB.out.cell (wLt w _ hw271_2)).trans hw271_2),((HB.out.cell (wLt w _ hw271_3)).trans hw271_3),((HB.out.cell (wLt w _ hw271_4)).trans hw271_4),((HB.out.cell (wLt w _ hw271_5)).trans hw271_5),((HB.out.cell (wLt w _ hw271_6)).trans hw271_6),((HB.out.cell (wLt w _ hw271_7)).trans hw271_7),((HB.out.cell (wLt w _ hw271_8)).trans hw271_8),((HB.out.cell (wLt w _ hw272_0)).trans hw272_0),((HB.out.cell (wLt w _ hw272_1)).trans hw272_1),((HB.out.cell (wLt w _ hw272_2)).trans hw272_2),((HB.out.cell (wLt w _ hw272_3)).trans hw272_3),((HB.out.cell (wLt w _ hw272_4)).trans hw272_4),((HB.out.cell (wLt w _ hw272_5)).trans hw272_5),((HB.out.cell (wLt w _ hw272_6)).trans hw272_6),((HB.out.cell (wLt w _ hw272_7)).trans hw272_7),((HB.out.cell (wLt w _ hw272_8)).trans hw272_8),((HB.out.cell (wLt w _ hw273_0)).trans hw273_0),((HB.out.cell (wLt w _ hw273_1)).trans hw273_1),((HB.out.cell (wLt w _ hw273_2)).trans hw273_2),((HB.out.cell (wLt w _ hw273_3)).trans hw273_3),((HB.out.cell (wLt w _ hw273_4)).trans hw273_4),((HB.out.cell (wLt w _ hw273_5)).trans hw273_5),((HB.out.cell (wLt w _ hw273_6)).trans hw273_6),((HB.out.cell (wLt w _ hw273_7)).trans hw273_7),((HB.out.cell (wLt w _ hw273_8)).trans hw273_8),((HB.out.cell (wLt w _ hw274_0)).trans hw274_0),((HB.out.cell (wLt w _ hw274_1)).trans hw274_1),((HB.out.cell (wLt w _ hw274_2)).trans hw274_2),((HB.out.cell (wLt w _ hw274_3)).trans hw274_3),((HB.out.cell (wLt w _ hw274_4)).trans hw274_4),((HB.out.cell (wLt w _ hw274_5)).trans hw274_5),((HB.out.cell (wLt w _ hw274_6)).trans hw274_6),((HB.out.cell (wLt w _ hw274_7)).trans hw274_7),((HB.out.cell (wLt w _ hw274_8)).trans hw274_8),((HB.out.cell (wLt w _ hw275_0)).trans hw275_0),((HB.out.cell (wLt w _ hw275_1)).trans hw275_1),((HB.out.cell (wLt w _ hw275_2)).trans hw275_2),((HB.out.cell (wLt w _ hw275_3)).trans hw275_3),((HB.out.cell (wLt w _ hw275_4)).trans hw275_4),((HB.out.cell (wLt w _ hw275_5)).trans hw275_5),((HB.out.cell (wLt w _ hw275_6)).trans hw275_6),((HB.out.cell (wLt w _ hw275_7)).trans hw275_7),((HB.out.cell (wLt w _ hw275_8)).trans hw275_8)⟩ (fun hHeld => ?_)
              clear hK K
              refine norm_ (a':=?_) ?_ ?_
              rotate_left
              ·show Act.put _ (some 61) _ = _
               simp only [Act.put,List.setIfInBounds_toArray,List.set_cons_zero,List.set_cons_succ,i64_w,i32_w]
               rfl
              refine pure_ (i:=24) (N:=some 37) (v:=?_) (a':=?_) #[true,true,true,true,true,true,true,true,true,true,true,true,true,true,true,true,true,true,true,true,true,true,true,true,true,false,false,false,false] rfl rfl (any_of HT_.out (by kernel_rfl)) (fun _ _ _ h => h) (Or.inl ⟨by rfl,?_⟩) ?_ ?_
              rotate_left
              ·intro w'
               go_simp
               with_reducible rfl
              rotate_left
              ·simp only [Act.put,List.setIfInBounds_toArray,List.set_cons_zero,List.set_cons_succ,i64_w,i32_w]
               rfl
              refine pure_ (i:=25) (N:=some 62) (v:=?_) (a':=?_) #[true,true,true,true,true,true,true,true,true,true,true,true,true,true,true,true,true,true,true,true,true,true,true,true,true,true,false,false,false] rfl rfl (any_of HT_.out (by kernel_rfl)) (fun _ _ _ h => h) (Or.inl ⟨by rfl,?_⟩) ?_ ?_
              rotate_left
              ·intro w'
               go_simp
               with_reducible rfl
              rotate_left
              ·simp only [Act.put,List.setIfInBounds_toArray,List.set_cons_zero,List.set_cons_succ,i64_w,i32_w]
               rfl
              refine pure_ (i:=26) (N:=some 63) (v:=?_) (a':=?_) #[true,true,true,true,true,true,true,true,true,true,true,true,true,true,true,true,true,true,true,true,true,true,true,true,true,true,true,false,false] rfl rfl (any_of HT_.out (by kernel_rfl)) (fun _ _ _ h => h) (Or.inl ⟨by rfl,?_⟩) ?_ ?_
              rotate_left
              ·intro w'
               go_simp
               with_reducible rfl
              rotate_left
              ·simp only [Act.put,List.setIfInBounds_toArray,List.set_cons_zero,List.set_cons_succ,i64_w,i32_w]
               rfl
              refine pure_ (i:=27) (N:=some 5) (v:=?_) (a':=?_) #[true,true,true,true,true,true,true,true,true,true,true,true,true,true,true,true,true,true,true,true,true,true,true,true,true,true,true,true,false] rfl rfl (any_of HT_.out (by kernel_rfl)) (fun _ _ _ h => h) (Or.inl ⟨by rfl,?_⟩) ?_ ?_
              rotate_left
              ·intro w'
               go_simp
               with_reducible rfl
              rotate_left
              ·simp only [Act.put,List.setIfInBounds_toArray,List.set_cons_zero,List.set_cons_succ,i64_w,i32_w]
               rfl
              refine pure_ (i:=28) (N:=some 6) (v:=?_) (a':=?_) #[true,true,true,true,true,true,true,true,true,true,true,true,true,true,true,true,true,true,true,true,true,true,true,true,true,true,true,true,true] rfl rfl (any_of HT_.out (by kernel_rfl)) (fun _ _ _ h => h) (Or.inl ⟨by rfl,?_⟩) ?_ ?_
              rotate_left
              ·intro w'
               go_simp
               with_reducible rfl
              rotate_left
              ·simp only [Act.put,List.setIfInBounds_toArray,List.set_cons_zero,List.set_cons_succ,i64_w,i32_w]
               rfl
              refine done_ (done_of HT_.out (by kernel_rfl)) ?_
              try go_wp2
              go_roundg kj5
              case measure => have:=HK1.out;have:=HJ5.out;omega
              case rel => exact ⟨(wrap64 (x12_1 + 1)),(by first | rfl|(simp;done)|(simp [*];done)|(simp [ne_nil_b];done)|(simp [ne_nil_b, *];done)),H',⟨by have:=HK1.out;have:=HJ5.out;omega⟩,⟨by repeat (first|(with_reducible first|exact HB.out|apply bwA|apply bwN|apply bw1)|exact HB.out)⟩⟩
            ·rw [if_neg c18] at H
             exact absurd H (by simp)
           ·rw [if_neg c17] at H
            exact absurd H (by simp)
          ·rw [if_neg c16] at H
           exact absurd H (by simp)
      ·rw [if_neg c5] at H
       exact absurd H (by simp)
     ·rw [if_neg c4] at H
      exact absurd H (by simp)
    ·rw [if_neg c3] at H
     have c3b0 : decide (x12_1 < (l0.length : Int)) = false:=decide_eq_false c3
     clear c3
     obtain rfl:=Option.some.inj H
     go_wp2
     go_ret
     exact ⟨by first | rfl|(simp [errW_none,errW_some] <;> rfl)|(simp [*,errW_none,errW_some] <;> rfl),by repeat (first|(with_reducible first|exact HB.out|apply bwA|apply bwN|apply bw1)|exact HB.out)⟩
end
section
/-! ### impl_flowsFault: function 81 -/
def impl_flowsFault.f (k : Nat) (l0 : List (S71)) : Option (Int):=if (l0.length : Int) > 4096 then (some 2) else ((impl_FlowsOK.f k l0).bind fun t306 => (if t306 = true then (some 0) else (some 1)))
theorem impl_flowsFault.mono : ∀ a0 k,LeO (impl_flowsFault.f k a0) (impl_flowsFault.f (k + 1) a0):=by
 intro a0 k
 unfold impl_flowsFault.f
 repeat' first
   | (with_reducible exact impl_FlowsOK.mono ..)
   | (with_reducible exact LeO.refl _)
   | (with_reducible exact LeO.none _)
   | (with_reducible refine LeO.ite ?_ ?_)
   | (with_reducible refine LeO.bind ?_ (fun _ => ?_))
   | exact impl_FlowsOK.mono ..
   | exact LeO.none _
   | refine LeO.ite ?_ ?_
   | refine LeO.bind ?_ (fun _ => ?_)
set_option maxHeartbeats 8000000 in
set_option maxRecDepth 100000 in
theorem impl_flowsFault.calls (k : Nat) (A0 : Option Addr) (c0 : Nat) (l0 : List (S71)) (r : Int) (w : World) (hr0 : Kd.C k71 w A0 l0.length l0) (hc0 : l0.length ≤ c0) (h : impl_flowsFault.f k l0 = some r) :
  Calls Try.prog 81 #[.slice A0 l0.length c0] w fun e w' => e = .returned (.int .i64 r) ∧ Below w.heap.size w w':=by
 have HR0:=aMk hr0
 have HC0:=aMk hc0
 clear hr0 hc0
 have HB:=aMk (Below.refl w.heap.size w)
 have H : (if (l0.length : Int) > 4096 then (some 2) else ((impl_FlowsOK.f k l0).bind fun t306 => (if t306 = true then (some 0) else (some 1)))) = some r:=h
 clear h
 by_cases c2 : (l0.length : Int) > 4096
 ·rw [if_pos c2] at H
  have c2b0 : decide (4096 < (l0.length : Int)) = true:=decide_eq_true c2
  have c2b1 : decide (4096 < l0.length) = true:=decide_eq_true (by omega)
  clear c2
  obtain rfl:=Option.some.inj H
  go_enter Try.func81,Try.ntmps81
  go_wp2
  go_ret
  exact ⟨by first | rfl|(simp [errW_none,errW_some] <;> rfl)|(simp [*,errW_none,errW_some] <;> rfl),by repeat (first|(with_reducible first|exact HB.out|apply bwA|apply bwN|apply bw1)|exact HB.out)⟩
 ·rw [if_neg c2] at H
  have c2b0 : decide (4096 < (l0.length : Int)) = false:=decide_eq_false c2
  have c2b1 : decide (4096 < l0.length) = false:=decide_eq_false (by omega)
  clear c2
  replace H:=Option.bind_eq_some_iff.mp H
  obtain ⟨t306,A30,H⟩:=H
  replace H : (if t306 = true then (some 0) else (some 1)) = some r:=H
  have A3:=aMk A30
  clear A30
  by_cases c4 : t306 = true
  ·subst c4
   have H1 : (some 0) = some r:=by rw [if_pos rfl] at H;exact H
   clear H
   have H:=H1
   clear H1
   obtain rfl:=Option.some.inj H
   go_enter Try.func81,Try.ntmps81
   go_wp2_with (first|((with_reducible refine gate_callee (f:=29) rfl ?_);refine goesL_ (some 9) rfl rfl Try.func29 (by kernel_rfl) rfl #[.slice A0 l0.length c0] rfl (by (try simp only [List.map_toArray,List.map_cons,List.map_nil]);first | done | rfl|(simp only [List.length_drop,List.length_take];rfl)) ?_;(with_reducible refine (impl_FlowsOK.calls k _ _ l0 true _ ?side1 ?side2 A3.out).mono ?_);(case side1 => repeat (first|exact HR0.out|(with_reducible refine Kd.C_alloc ?_ _)|(with_reducible refine Kd.C_drewN ?_ _)|(with_reducible refine Kd.C_drew ?_)));(case side2 => exact HC0.out);rintro e w5 ⟨rfl,hb⟩;refine ⟨_,rfl,?_⟩;have n0_:=aMk (below_step (by repeat first|exact HB.out|apply bwA|apply bwN|apply bw1) hb);clear HB;have HB:=n0_;clear n0_;(try clear hb);(try clear hb2);(try clear hk);(try clear hi)))
   go_ret
   exact ⟨by first | rfl|(simp [errW_none,errW_some] <;> rfl)|(simp [*,errW_none,errW_some] <;> rfl),by repeat (first|(with_reducible first|exact HB.out|apply bwA|apply bwN|apply bw1)|exact HB.out)⟩
  ·replace c4:=Bool.eq_false_iff.mpr c4
   subst c4
   have H1 : (some 1) = some r:=by rw [if_neg (show ¬ (false = true) by decide)] at H;exact H
   clear H
   have H:=H1
   clear H1
   obtain rfl:=Option.some.inj H
   go_enter Try.func81,Try.ntmps81
   go_wp2_with (first|((with_reducible refine gate_callee (f:=29) rfl ?_);refine goesL_ (some 9) rfl rfl Try.func29 (by kernel_rfl) rfl #[.slice A0 l0.length c0] rfl (by (try simp only [List.map_toArray,List.map_cons,List.map_nil]);first | done | rfl|(simp only [List.length_drop,List.length_take];rfl)) ?_;(with_reducible refine (impl_FlowsOK.calls k _ _ l0 false _ ?side1 ?side2 A3.out).mono ?_);(case side1 => repeat (first|exact HR0.out|(with_reducible refine Kd.C_alloc ?_ _)|(with_reducible refine Kd.C_drewN ?_ _)|(with_reducible refine Kd.C_drew ?_)));(case side2 => exact HC0.out);rintro e w6 ⟨rfl,hb⟩;refine ⟨_,rfl,?_⟩;have n0_:=aMk (below_step (by repeat first|exact HB.out|apply bwA|apply bwN|apply bw1) hb);clear HB;have HB:=n0_;clear n0_;(try clear hb);(try clear hb2);(try clear hk);(try clear hi)))
   go_ret
   exact ⟨by first | rfl|(simp [errW_none,errW_some] <;> rfl)|(simp [*,errW_none,errW_some] <;> rfl),by repeat (first|(with_reducible first|exact HB.out|apply bwA|apply bwN|apply bw1)|exact HB.out)⟩
end
section
/-! ### impl_isTime: function 98 -/
def impl_isTime.f (a0 : Int) : Option (Bool):=(impl_within.f a0 0 100000).bind fun t963 => (some t963)
set_option maxHeartbeats 8000000 in
set_option maxRecDepth 100000 in
theorem impl_isTime.calls (a0 : Int) (r : Bool) (w : World) (h : impl_isTime.f a0 = some r) :
  Calls Try.prog 98 #[.int .i64 a0] w fun e w' => e = .returned (.bool r) ∧ Drawn0 w w':=by
 have H : ((impl_within.f a0 0 100000).bind fun t963 => (some t963)) = some r:=h
 clear h
 replace H:=Option.bind_eq_some_iff.mp H
 obtain ⟨t963,A20,H⟩:=H
 replace H : (some t963) = some r:=H
 have A2:=aMk A20
 clear A20
 obtain rfl:=Option.some.inj H
 go_enter Try.func98,Try.ntmps98
 go_wp2_with (first|((with_reducible refine gate_callee (f:=62) rfl ?_);refine goesL_ (some 4) rfl rfl Try.func62 (by kernel_rfl) rfl #[.int .i64 a0,.int .i64 0,.int .i64 100000] rfl (by (try simp only [List.map_toArray,List.map_cons,List.map_nil]);first | done | rfl|(simp only [List.length_drop,List.length_take];rfl)) ?_;(with_reducible refine (impl_within.calls a0 0 100000 t963 _ A2.out).mono ?_);rintro e w' ⟨rfl,⟨nd,rfl⟩⟩;refine ⟨_,rfl,?_⟩))
 go_ret
 exact ⟨by first | rfl|(simp;done)|(simp [*];done)|(simp [ne_nil_b];done)|(simp [ne_nil_b, *];done),by repeat (first|exact Drawn0.refl _|apply Drawn0.step)⟩
end
section
/-! ### impl_flowWait: function 67 -/
def impl_flowWait.f (a0 : Int) (a1 : Int) : Option (Int):=if a0 = 6 then (if a1 = 2 then (some 30) else (some 3)) else (some 5)
set_option maxHeartbeats 8000000 in
set_option maxRecDepth 100000 in
theorem impl_flowWait.calls (a0 : Int) (a1 : Int) (r : Int) (w : World) (h : impl_flowWait.f a0 a1 = some r) :
  Calls Try.prog 67 #[.int .i64 a0,.int .i64 a1] w fun e w' => e = .returned (.int .i64 r) ∧ Drawn0 w w':=by
 have H : (if a0 = 6 then (if a1 = 2 then (some 30) else (some 3)) else (some 5)) = some r:=h
 clear h
 by_cases c3 : a0 = 6
 ·rw [if_pos c3] at H
  have c3b0 : (a0 == 6) = true:=beq_iff_eq.mpr c3
  have c3b1 : (a0 != 6) = false:=bne_eq_false_iff_eq.mpr c3
  clear c3
  by_cases c4 : a1 = 2
  ·rw [if_pos c4] at H
   have c4b0 : (a1 == 2) = true:=beq_iff_eq.mpr c4
   have c4b1 : (a1 != 2) = false:=bne_eq_false_iff_eq.mpr c4
   clear c4
   obtain rfl:=Option.some.inj H
   go_enter Try.func67,Try.ntmps67
   go_wp2
   go_ret
   exact ⟨by first | rfl|(simp;done)|(simp [*];done)|(simp [ne_nil_b];done)|(simp [ne_nil_b, *];done),by repeat (first|exact Drawn0.refl _|apply Drawn0.step)⟩
  ·rw [if_neg c4] at H
   have c4b0 : (a1 == 2) = false:=beq_eq_false_iff_ne.mpr c4
   have c4b1 : (a1 != 2) = true:=bne_iff_ne.mpr c4
   obtain rfl:=Option.some.inj H
   go_enter Try.func67,Try.ntmps67
   go_wp2
   go_ret
   exact ⟨by first | rfl|(simp;done)|(simp [*];done)|(simp [ne_nil_b];done)|(simp [ne_nil_b, *];done),by repeat (first|exact Drawn0.refl _|apply Drawn0.step)⟩
 ·rw [if_neg c3] at H
  have c3b0 : (a0 == 6) = false:=beq_eq_false_iff_ne.mpr c3
  have c3b1 : (a0 != 6) = true:=bne_iff_ne.mpr c3
  obtain rfl:=Option.some.inj H
  go_enter Try.func67,Try.ntmps67
  go_wp2
  go_ret
  exact ⟨by first | rfl|(simp;done)|(simp [*];done)|(simp [ne_nil_b];done)|(simp [ne_nil_b, *];done),by repeat (first|exact Drawn0.refl _|apply Drawn0.step)⟩
end
section
/-! ### impl_flowOpen: function 99 -/
def impl_flowOpen.f (k : Nat) (l0 : List (S71)) (a1_0 : Int) (a1_1 : ByteArray) (a1_2 : Int) (a1_3 : Int) (a1_4 : Int) (a1_5 : Int) (a1_6 : Int) (a1_7 : Int) (a1_8 : Int) (a2 : Int) : Option ((List (S71)) × Int):=(impl_find.f k l0 a1_0 a1_2 a1_3 a1_4 a1_5).bind fun bt965 => (if bt965.1 ≥ 0 then (some (l0,9)) else (if (l0.length : Int) = 8 then (some (l0,7)) else ((impl_flowWait.f a1_0 1).bind fun t967 => (if l0.length < 1759218604441 then (some ((l0 ++ [(⟨a1_0,a1_1,a1_2,a1_3,a1_4,a1_5,1,wrap64 (a2 + t967),a1_8⟩ : S71)]),0)) else (none)))))
theorem impl_flowOpen.mono : ∀ a0 a1 a2 a3 a4 a5 a6 a7 a8 a9 a10 k,LeO (impl_flowOpen.f k a0 a1 a2 a3 a4 a5 a6 a7 a8 a9 a10) (impl_flowOpen.f (k + 1) a0 a1 a2 a3 a4 a5 a6 a7 a8 a9 a10):=by
 intro a0 a1 a2 a3 a4 a5 a6 a7 a8 a9 a10 k
 unfold impl_flowOpen.f
 repeat' first
   | (with_reducible exact impl_find.mono ..)
   | (with_reducible exact LeO.refl _)
   | (with_reducible exact LeO.none _)
   | (with_reducible refine LeO.ite ?_ ?_)
   | (with_reducible refine LeO.bind ?_ (fun _ => ?_))
   | exact impl_find.mono ..
   | exact LeO.none _
   | refine LeO.ite ?_ ?_
   | refine LeO.bind ?_ (fun _ => ?_)
set_option maxHeartbeats 8000000 in
set_option maxRecDepth 100000 in
theorem impl_flowOpen.calls (k : Nat) (P0_ : Nat → Prop) (u9000_ : Value) (l0 : List (S71)) (a1_0 : Int) (a1_1 : ByteArray) (a1_2 : Int) (a1_3 : Int) (a1_4 : Int) (a1_5 : Int) (a1_6 : Int) (a1_7 : Int) (a1_8 : Int) (a2 : Int) (r1 : List (S71)) (r2 : Int) (w0 w : World) (hB : Below w0.heap.size w0 w) (ho0 : Kd.R k71 71 w w0.heap.size P0_ u9000_ l0) (h : impl_flowOpen.f k l0 a1_0 a1_1 a1_2 a1_3 a1_4 a1_5 a1_6 a1_7 a1_8 a2 = some (r1,r2)) :
  Calls Try.prog 99 #[u9000_,.agg #[.int .i64 a1_0,.string a1_1,.int .i64 a1_2,.int .i64 a1_3,.int .i64 a1_4,.int .i64 a1_5,.int .i64 a1_6,.int .i64 a1_7,.int .i64 a1_8],.int .i64 a2] w fun e w' => ∃ v0_ : Value,e = .returned (.tuple #[v0_,.int .i64 r2]) ∧ Kd.R k71 71 w' w0.heap.size (fun k_ => (P0_ k_ ∨ w.heap.size ≤ k_)) v0_ r1 ∧ Below w0.heap.size w0 w' ∧ Kept w w' (fun k_ => P0_ k_):=by
 have hu71:=Try.underlying71
 have HO0:=aMk (show Kd.R k71 71 w w0.heap.size (fun k_ => (P0_ k_ ∨ w.heap.size ≤ k_)) u9000_ l0 from Kd.R_mono ho0 (fun k_ hk => (.inl hk)))
 have HK:=aMk (Kept.refl w (fun k_ => P0_ k_))
 have HW0:=aMk hB.size
 have HB:=aMk hB
 clear hB
 have H : ((impl_find.f k l0 a1_0 a1_2 a1_3 a1_4 a1_5).bind fun bt965 => (if bt965.1 ≥ 0 then (some (l0,9)) else (if (l0.length : Int) = 8 then (some (l0,7)) else ((impl_flowWait.f a1_0 1).bind fun t967 => (if l0.length < 1759218604441 then (some ((l0 ++ [(⟨a1_0,a1_1,a1_2,a1_3,a1_4,a1_5,1,wrap64 (a2 + t967),a1_8⟩ : S71)]),0)) else (none)))))) = some (r1,r2):=h
 clear h
 replace H:=Option.bind_eq_some_iff.mp H
 obtain ⟨⟨t965,t966⟩,A40,H⟩:=H
 replace H : (if t965 ≥ 0 then (some (l0,9)) else (if (l0.length : Int) = 8 then (some (l0,7)) else ((impl_flowWait.f a1_0 1).bind fun t967 => (if l0.length < 1759218604441 then (some ((l0 ++ [(⟨a1_0,a1_1,a1_2,a1_3,a1_4,a1_5,1,wrap64 (a2 + t967),a1_8⟩ : S71)]),0)) else (none))))) = some (r1,r2):=H
 have A4:=aMk A40
 clear A40
 by_cases c5 : t965 ≥ 0
 ·rw [if_pos c5] at H
  have c5b0 : decide (0 ≤ t965) = true:=decide_eq_true c5
  clear c5
  simp only [Option.some.injEq,Prod.mk.injEq] at H
  obtain ⟨rfl,rfl⟩:=H
  go_enter Try.func99,Try.ntmps99
  go_wp2_with (first|((with_reducible refine gate_dst (N:=4) rfl ?_);refine box_event ?hg (N:=4) ?hd (cs:=#[.int .i64 a1_0,.string a1_1,.int .i64 a1_2,.int .i64 a1_3,.int .i64 a1_4,.int .i64 a1_5,.int .i64 a1_6,.int .i64 a1_7,.int .i64 a1_8]) (t:=71) ?hr ?_;(case hd => rfl);(case hg => rfl);(case hr => first|(go_simp;done)|(go_simp;rfl));intro gb964 hg w6 hbox hb;have n0_:=aMk (Kd.R_below (Kd.R_elderB (by (with_reducible repeat (first|apply Kd.R_alloc|apply Kd.R_drewN|apply Kd.R_drew));exact HO0.out) gb964 (Nat.le_of_eq hg.symm)) hb);have n1_:=aMk (Kept.below (S:=(fun k_ => P0_ k_)) (by repeat (first|(with_reducible first|exact HK.out|apply Kept.alloc|apply Kept.drewN|apply Kept.drew)|exact HK.out)) hb);have n2_:=aMk (below_step (by repeat first|exact HB.out|apply bwA|apply bwN|apply bw1) hb);have n3_:=aMk (hbox);have n4_:=aMk ((by rw [hg];exact (by first|exact HK.out.1|exact (show Kept w _ (fun k_ => P0_ k_) from by repeat (first|(with_reducible first|exact HK.out|apply Kept.alloc|apply Kept.drewN|apply Kept.drew)|exact HK.out)).1) : w.heap.size ≤ gb964));have n5_:=aMk ((by rw [hg];exact (below_size (by repeat first|exact HB.out|apply bwA|apply bwN|apply bw1)) : w0.heap.size ≤ gb964));clear HO0;clear HK;clear HB;have HO0:=n0_;have HK:=n1_;have HB:=n2_;have BK964:=n3_;have GW964:=n4_;have GE964:=n5_;clear n0_ n1_ n2_ n3_ n4_ n5_;clear hb hbox hg;have hcz7_0 : w6.cell? ⟨gb964,0,none⟩ = some (.int .i64 a1_0):=(bCe BK964.out 0).trans rfl;have hcz7_1 : w6.cell? ⟨gb964,1,none⟩ = some (.string a1_1):=(bCe BK964.out 1).trans rfl;have hcz7_2 : w6.cell? ⟨gb964,2,none⟩ = some (.int .i64 a1_2):=(bCe BK964.out 2).trans rfl;have hcz7_3 : w6.cell? ⟨gb964,3,none⟩ = some (.int .i64 a1_3):=(bCe BK964.out 3).trans rfl;have hcz7_4 : w6.cell? ⟨gb964,4,none⟩ = some (.int .i64 a1_4):=(bCe BK964.out 4).trans rfl;have hcz7_5 : w6.cell? ⟨gb964,5,none⟩ = some (.int .i64 a1_5):=(bCe BK964.out 5).trans rfl;have hcz7_6 : w6.cell? ⟨gb964,6,none⟩ = some (.int .i64 a1_6):=(bCe BK964.out 6).trans rfl;have hcz7_7 : w6.cell? ⟨gb964,7,none⟩ = some (.int .i64 a1_7):=(bCe BK964.out 7).trans rfl;have hcz7_8 : w6.cell? ⟨gb964,8,none⟩ = some (.int .i64 a1_8):=(bCe BK964.out 8).trans rfl;have hfz7_0:=bFr BK964.out 0;have hfz7_1:=bFr BK964.out 1;have hfz7_2:=bFr BK964.out 2;have hfz7_3:=bFr BK964.out 3;have hfz7_4:=bFr BK964.out 4;have hfz7_5:=bFr BK964.out 5;have hfz7_6:=bFr BK964.out 6;have hfz7_7:=bFr BK964.out 7;have hfz7_8:=bFr BK964.out 8;obtain ⟨Ao8,co8,eo8⟩:=Kd.R_slice HO0.out;subst eo8)|((with_reducible refine gate_callee (f:=78) rfl ?_);refine goesL_ (some 22) rfl rfl Try.func78 (by kernel_rfl) rfl #[.slice Ao8 l0.length co8,.int .i64 a1_0,.int .i64 a1_2,.int .i64 a1_3,.int .i64 a1_4,.int .i64 a1_5] rfl (by (try simp only [List.map_toArray,List.map_cons,List.map_nil]);first | done | rfl|(simp only [List.length_drop,List.length_take];rfl)) ?_;(with_reducible refine (impl_find.calls k _ _ l0 a1_0 a1_2 a1_3 a1_4 a1_5 t965 t966 _ ?side1 ?side2 A4.out).mono ?_);(case side1 => repeat (first|exact (Kd.R_reads' HO0.out).2.2|(with_reducible refine Kd.C_alloc ?_ _)|(with_reducible refine Kd.C_drewN ?_ _)|(with_reducible refine Kd.C_drew ?_)));(case side2 => exact (Kd.R_reads' HO0.out).2.1);rintro e w9 ⟨rfl,hb⟩;refine ⟨_,rfl,?_⟩;have n0_:=aMk (Kd.R_below (by (with_reducible repeat (first|apply Kd.R_alloc|apply Kd.R_drewN|apply Kd.R_drew));exact HO0.out) hb);have n1_:=aMk (blk_below (g:=gb964) (o:=.cells #[.int .i64 a1_0,.string a1_1,.int .i64 a1_2,.int .i64 a1_3,.int .i64 a1_4,.int .i64 a1_5,.int .i64 a1_6,.int .i64 a1_7,.int .i64 a1_8] 71 (0,0)) (by (with_reducible repeat (first|refine bDn ?_ _|refine bDr ?_|refine bAl ?_ _));exact BK964.out) hb);have n2_:=aMk (Kept.below (S:=(fun k_ => P0_ k_)) (by repeat (first|(with_reducible first|exact HK.out|apply Kept.alloc|apply Kept.drewN|apply Kept.drew|refine Kept.setCell ?_ (.inr GW964.out) _)|exact HK.out)) hb);have n3_:=aMk (below_step (by repeat (first|(with_reducible first|exact HB.out|apply bwA|apply bwN|apply bw1|refine below_set ?_ GE964.out)|exact HB.out)) hb);clear HO0;clear BK964;clear HK;clear HB;have HO0:=n0_;have BK964:=n1_;have HK:=n2_;have HB:=n3_;clear n0_ n1_ n2_ n3_;(try clear hb);(try clear hb2);(try clear hk);(try clear hi)))
  go_ret2
  exact ⟨_,by first | rfl|(simp [errW_none,errW_some] <;> rfl)|(simp [*,errW_none,errW_some] <;> rfl),by (with_reducible repeat (first|apply Kd.R_alloc|apply Kd.R_drewN|apply Kd.R_drew));exact Kd.R_mono HO0.out (fun _ hk => hk.1),by repeat (first|(with_reducible first|exact HB.out|apply bwA|apply bwN|apply bw1|refine below_set ?_ GE964.out)|exact HB.out),by repeat (first|(with_reducible first|exact HK.out|apply Kept.alloc|apply Kept.drewN|apply Kept.drew|refine Kept.setCell ?_ (.inr GW964.out) _)|exact HK.out)⟩
 ·rw [if_neg c5] at H
  have c5b0 : decide (0 ≤ t965) = false:=decide_eq_false c5
  clear c5
  by_cases c10 : (l0.length : Int) = 8
  ·rw [if_pos c10] at H
   have c10b0 : ((l0.length : Int) == 8) = true:=beq_iff_eq.mpr c10
   have c10b1 : ((l0.length : Int) != 8) = false:=bne_eq_false_iff_eq.mpr c10
   clear c10
   simp only [Option.some.injEq,Prod.mk.injEq] at H
   obtain ⟨rfl,rfl⟩:=H
   go_enter Try.func99,Try.ntmps99
   go_wp2_with (first|((with_reducible refine gate_dst (N:=4) rfl ?_);refine box_event ?hg (N:=4) ?hd (cs:=#[.int .i64 a1_0,.string a1_1,.int .i64 a1_2,.int .i64 a1_3,.int .i64 a1_4,.int .i64 a1_5,.int .i64 a1_6,.int .i64 a1_7,.int .i64 a1_8]) (t:=71) ?hr ?_;(case hd => rfl);(case hg => rfl);(case hr => first|(go_simp;done)|(go_simp;rfl));intro gb964 hg w11 hbox hb;have n0_:=aMk (Kd.R_below (Kd.R_elderB (by (with_reducible repeat (first|apply Kd.R_alloc|apply Kd.R_drewN|apply Kd.R_drew));exact HO0.out) gb964 (Nat.le_of_eq hg.symm)) hb);have n1_:=aMk (Kept.below (S:=(fun k_ => P0_ k_)) (by repeat (first|(with_reducible first|exact HK.out|apply Kept.alloc|apply Kept.drewN|apply Kept.drew)|exact HK.out)) hb);have n2_:=aMk (below_step (by repeat first|exact HB.out|apply bwA|apply bwN|apply bw1) hb);have n3_:=aMk (hbox);have n4_:=aMk ((by rw [hg];exact (by first|exact HK.out.1|exact (show Kept w _ (fun k_ => P0_ k_) from by repeat (first|(with_reducible first|exact HK.out|apply Kept.alloc|apply Kept.drewN|apply Kept.drew)|exact HK.out)).1) : w.heap.size ≤ gb964));have n5_:=aMk ((by rw [hg];exact (below_size (by repeat first|exact HB.out|apply bwA|apply bwN|apply bw1)) : w0.heap.size ≤ gb964));clear HO0;clear HK;clear HB;have HO0:=n0_;have HK:=n1_;have HB:=n2_;have BK964:=n3_;have GW964:=n4_;have GE964:=n5_;clear n0_ n1_ n2_ n3_ n4_ n5_;clear hb hbox hg;have hcz12_0 : w11.cell? ⟨gb964,0,none⟩ = some (.int .i64 a1_0):=(bCe BK964.out 0).trans rfl;have hcz12_1 : w11.cell? ⟨gb964,1,none⟩ = some (.string a1_1):=(bCe BK964.out 1).trans rfl;have hcz12_2 : w11.cell? ⟨gb964,2,none⟩ = some (.int .i64 a1_2):=(bCe BK964.out 2).trans rfl;have hcz12_3 : w11.cell? ⟨gb964,3,none⟩ = some (.int .i64 a1_3):=(bCe BK964.out 3).trans rfl;have hcz12_4 : w11.cell? ⟨gb964,4,none⟩ = some (.int .i64 a1_4):=(bCe BK964.out 4).trans rfl;have hcz12_5 : w11.cell? ⟨gb964,5,none⟩ = some (.int .i64 a1_5):=(bCe BK964.out 5).trans rfl;have hcz12_6 : w11.cell? ⟨gb964,6,none⟩ = some (.int .i64 a1_6):=(bCe BK964.out 6).trans rfl;have hcz12_7 : w11.cell? ⟨gb964,7,none⟩ = some (.int .i64 a1_7):=(bCe BK964.out 7).trans rfl;have hcz12_8 : w11.cell? ⟨gb964,8,none⟩ = some (.int .i64 a1_8):=(bCe BK964.out 8).trans rfl;have hfz12_0:=bFr BK964.out 0;have hfz12_1:=bFr BK964.out 1;have hfz12_2:=bFr BK964.out 2;have hfz12_3:=bFr BK964.out 3;have hfz12_4:=bFr BK964.out 4;have hfz12_5:=bFr BK964.out 5;have hfz12_6:=bFr BK964.out 6;have hfz12_7:=bFr BK964.out 7;have hfz12_8:=bFr BK964.out 8;obtain ⟨Ao13,co13,eo13⟩:=Kd.R_slice HO0.out;subst eo13)|((with_reducible refine gate_callee (f:=78) rfl ?_);refine goesL_ (some 22) rfl rfl Try.func78 (by kernel_rfl) rfl #[.slice Ao13 l0.length co13,.int .i64 a1_0,.int .i64 a1_2,.int .i64 a1_3,.int .i64 a1_4,.int .i64 a1_5] rfl (by (try simp only [List.map_toArray,List.map_cons,List.map_nil]);first | done | rfl|(simp only [List.length_drop,List.length_take];rfl)) ?_;(with_reducible refine (impl_find.calls k _ _ l0 a1_0 a1_2 a1_3 a1_4 a1_5 t965 t966 _ ?side1 ?side2 A4.out).mono ?_);(case side1 => repeat (first|exact (Kd.R_reads' HO0.out).2.2|(with_reducible refine Kd.C_alloc ?_ _)|(with_reducible refine Kd.C_drewN ?_ _)|(with_reducible refine Kd.C_drew ?_)));(case side2 => exact (Kd.R_reads' HO0.out).2.1);rintro e w14 ⟨rfl,hb⟩;refine ⟨_,rfl,?_⟩;have n0_:=aMk (Kd.R_below (by (with_reducible repeat (first|apply Kd.R_alloc|apply Kd.R_drewN|apply Kd.R_drew));exact HO0.out) hb);have n1_:=aMk (blk_below (g:=gb964) (o:=.cells #[.int .i64 a1_0,.string a1_1,.int .i64 a1_2,.int .i64 a1_3,.int .i64 a1_4,.int .i64 a1_5,.int .i64 a1_6,.int .i64 a1_7,.int .i64 a1_8] 71 (0,0)) (by (with_reducible repeat (first|refine bDn ?_ _|refine bDr ?_|refine bAl ?_ _));exact BK964.out) hb);have n2_:=aMk (Kept.below (S:=(fun k_ => P0_ k_)) (by repeat (first|(with_reducible first|exact HK.out|apply Kept.alloc|apply Kept.drewN|apply Kept.drew|refine Kept.setCell ?_ (.inr GW964.out) _)|exact HK.out)) hb);have n3_:=aMk (below_step (by repeat (first|(with_reducible first|exact HB.out|apply bwA|apply bwN|apply bw1|refine below_set ?_ GE964.out)|exact HB.out)) hb);clear HO0;clear BK964;clear HK;clear HB;have HO0:=n0_;have BK964:=n1_;have HK:=n2_;have HB:=n3_;clear n0_ n1_ n2_ n3_;(try clear hb);(try clear hb2);(try clear hk);(try clear hi)))
   go_ret2
   exact ⟨_,by first | rfl|(simp [errW_none,errW_some] <;> rfl)|(simp [*,errW_none,errW_some] <;> rfl),by (with_reducible repeat (first|apply Kd.R_alloc|apply Kd.R_drewN|apply Kd.R_drew));exact Kd.R_mono HO0.out (fun _ hk => hk.1),by repeat (first|(with_reducible first|exact HB.out|apply bwA|apply bwN|apply bw1|refine below_set ?_ GE964.out)|exact HB.out),by repeat (first|(with_reducible first|exact HK.out|apply Kept.alloc|apply Kept.drewN|apply Kept.drew|refine Kept.setCell ?_ (.inr GW964.out) _)|exact HK.out)⟩
  ·rw [if_neg c10] at H
   have c10b0 : ((l0.length : Int) == 8) = false:=beq_eq_false_iff_ne.mpr c10
   have c10b1 : ((l0.length : Int) != 8) = true:=bne_iff_ne.mpr c10
   replace H:=Option.bind_eq_some_iff.mp H
   obtain ⟨t967,A150,H⟩:=H
   replace H : (if l0.length < 1759218604441 then (some ((l0 ++ [(⟨a1_0,a1_1,a1_2,a1_3,a1_4,a1_5,1,wrap64 (a2 + t967),a1_8⟩ : S71)]),0)) else (none)) = some (r1,r2):=H
   have A15:=aMk A150
   clear A150
   by_cases c16 : l0.length < 1759218604441
   ·rw [if_pos c16] at H
    have LMc16:=aMk c16
    clear c16
    obtain ⟨y968,hy968⟩ : ∃ y_ : List (S71),y_ = (l0 ++ [(⟨a1_0,a1_1,a1_2,a1_3,a1_4,a1_5,1,wrap64 (a2 + t967),a1_8⟩ : S71)]):=⟨_,rfl⟩
    replace H : (some (y968,0)) = some (r1,r2):=by first|(rw [hy968];with_reducible exact H)|(have H2_:=(Option.bind_some _ _).symm.trans H;rw [hy968];with_reducible exact H2_)|(have H2_:=(Option.bind_some _ _).symm.trans H;with_reducible exact H2_) | with_reducible exact H|(rw [hy968];exact H)|exact H
    have Ny968:=aMk hy968
    clear hy968
    simp only [Option.some.injEq,Prod.mk.injEq] at H
    obtain ⟨rfl,rfl⟩:=H
    go_enter Try.func99,Try.ntmps99
    go_wp2_with (first|((with_reducible refine gate_dst (N:=4) rfl ?_);refine box_event ?hg (N:=4) ?hd (cs:=#[.int .i64 a1_0,.string a1_1,.int .i64 a1_2,.int .i64 a1_3,.int .i64 a1_4,.int .i64 a1_5,.int .i64 a1_6,.int .i64 a1_7,.int .i64 a1_8]) (t:=71) ?hr ?_;(case hd => rfl);(case hg => rfl);(case hr => first|(go_simp;done)|(go_simp;rfl));intro gb964 hg w17 hbox hb;have n0_:=aMk (Kd.R_below (Kd.R_elderB (by (with_reducible repeat (first|apply Kd.R_alloc|apply Kd.R_drewN|apply Kd.R_drew));exact HO0.out) gb964 (Nat.le_of_eq hg.symm)) hb);have n1_:=aMk (Kept.below (S:=(fun k_ => P0_ k_)) (by repeat (first|(with_reducible first|exact HK.out|apply Kept.alloc|apply Kept.drewN|apply Kept.drew)|exact HK.out)) hb);have n2_:=aMk (below_step (by repeat first|exact HB.out|apply bwA|apply bwN|apply bw1) hb);have n3_:=aMk (hbox);have n4_:=aMk ((by rw [hg];exact (by first|exact HK.out.1|exact (show Kept w _ (fun k_ => P0_ k_) from by repeat (first|(with_reducible first|exact HK.out|apply Kept.alloc|apply Kept.drewN|apply Kept.drew)|exact HK.out)).1) : w.heap.size ≤ gb964));have n5_:=aMk ((by rw [hg];exact (below_size (by repeat first|exact HB.out|apply bwA|apply bwN|apply bw1)) : w0.heap.size ≤ gb964));clear HO0;clear HK;clear HB;have HO0:=n0_;have HK:=n1_;have HB:=n2_;have BK964:=n3_;have GW964:=n4_;have GE964:=n5_;clear n0_ n1_ n2_ n3_ n4_ n5_;clear hb hbox hg;have hcz18_0 : w17.cell? ⟨gb964,0,none⟩ = some (.int .i64 a1_0):=(bCe BK964.out 0).trans rfl;have hcz18_1 : w17.cell? ⟨gb964,1,none⟩ = some (.string a1_1):=(bCe BK964.out 1).trans rfl;have hcz18_2 : w17.cell? ⟨gb964,2,none⟩ = some (.int .i64 a1_2):=(bCe BK964.out 2).trans rfl;have hcz18_3 : w17.cell? ⟨gb964,3,none⟩ = some (.int .i64 a1_3):=(bCe BK964.out 3).trans rfl;have hcz18_4 : w17.cell? ⟨gb964,4,none⟩ = some (.int .i64 a1_4):=(bCe BK964.out 4).trans rfl;have hcz18_5 : w17.cell? ⟨gb964,5,none⟩ = some (.int .i64 a1_5):=(bCe BK964.out 5).trans rfl;have hcz18_6 : w17.cell? ⟨gb964,6,none⟩ = some (.int .i64 a1_6):=(bCe BK964.out 6).trans rfl;have hcz18_7 : w17.cell? ⟨gb964,7,none⟩ = some (.int .i64 a1_7):=(bCe BK964.out 7).trans rfl;have hcz18_8 : w17.cell? ⟨gb964,8,none⟩ = some (.int .i64 a1_8):=(bCe BK964.out 8).trans rfl;have hfz18_0:=bFr BK964.out 0;have hfz18_1:=bFr BK964.out 1;have hfz18_2:=bFr BK964.out 2;have hfz18_3:=bFr BK964.out 3;have hfz18_4:=bFr BK964.out 4;have hfz18_5:=bFr BK964.out 5;have hfz18_6:=bFr BK964.out 6;have hfz18_7:=bFr BK964.out 7;have hfz18_8:=bFr BK964.out 8;obtain ⟨Ao19,co19,eo19⟩:=Kd.R_slice HO0.out;subst eo19)|((with_reducible refine gate_callee (f:=78) rfl ?_);refine goesL_ (some 22) rfl rfl Try.func78 (by kernel_rfl) rfl #[.slice Ao19 l0.length co19,.int .i64 a1_0,.int .i64 a1_2,.int .i64 a1_3,.int .i64 a1_4,.int .i64 a1_5] rfl (by (try simp only [List.map_toArray,List.map_cons,List.map_nil]);first | done | rfl|(simp only [List.length_drop,List.length_take];rfl)) ?_;(with_reducible refine (impl_find.calls k _ _ l0 a1_0 a1_2 a1_3 a1_4 a1_5 t965 t966 _ ?side1 ?side2 A4.out).mono ?_);(case side1 => repeat (first|exact (Kd.R_reads' HO0.out).2.2|(with_reducible refine Kd.C_alloc ?_ _)|(with_reducible refine Kd.C_drewN ?_ _)|(with_reducible refine Kd.C_drew ?_)));(case side2 => exact (Kd.R_reads' HO0.out).2.1);rintro e w20 ⟨rfl,hb⟩;refine ⟨_,rfl,?_⟩;have n0_:=aMk (Kd.R_below (by (with_reducible repeat (first|apply Kd.R_alloc|apply Kd.R_drewN|apply Kd.R_drew));exact HO0.out) hb);have n1_:=aMk (blk_below (g:=gb964) (o:=.cells #[.int .i64 a1_0,.string a1_1,.int .i64 a1_2,.int .i64 a1_3,.int .i64 a1_4,.int .i64 a1_5,.int .i64 a1_6,.int .i64 a1_7,.int .i64 a1_8] 71 (0,0)) (by (with_reducible repeat (first|refine bDn ?_ _|refine bDr ?_|refine bAl ?_ _));exact BK964.out) hb);have n2_:=aMk (Kept.below (S:=(fun k_ => P0_ k_)) (by repeat (first|(with_reducible first|exact HK.out|apply Kept.alloc|apply Kept.drewN|apply Kept.drew|refine Kept.setCell ?_ (.inr GW964.out) _)|exact HK.out)) hb);have n3_:=aMk (below_step (by repeat (first|(with_reducible first|exact HB.out|apply bwA|apply bwN|apply bw1|refine below_set ?_ GE964.out)|exact HB.out)) hb);clear HO0;clear BK964;clear HK;clear HB;have HO0:=n0_;have BK964:=n1_;have HK:=n2_;have HB:=n3_;clear n0_ n1_ n2_ n3_;(try clear hb);(try clear hb2);(try clear hk);(try clear hi);have hcz21_0 : w20.cell? ⟨gb964,0,none⟩ = some (.int .i64 a1_0):=(bCe BK964.out 0).trans rfl;have hcz21_1 : w20.cell? ⟨gb964,1,none⟩ = some (.string a1_1):=(bCe BK964.out 1).trans rfl;have hcz21_2 : w20.cell? ⟨gb964,2,none⟩ = some (.int .i64 a1_2):=(bCe BK964.out 2).trans rfl;have hcz21_3 : w20.cell? ⟨gb964,3,none⟩ = some (.int .i64 a1_3):=(bCe BK964.out 3).trans rfl;have hcz21_4 : w20.cell? ⟨gb964,4,none⟩ = some (.int .i64 a1_4):=(bCe BK964.out 4).trans rfl;have hcz21_5 : w20.cell? ⟨gb964,5,none⟩ = some (.int .i64 a1_5):=(bCe BK964.out 5).trans rfl;have hcz21_6 : w20.cell? ⟨gb964,6,none⟩ = some (.int .i64 a1_6):=(bCe BK964.out 6).trans rfl;have hcz21_7 : w20.cell? ⟨gb964,7,none⟩ = some (.int .i64 a1_7):=(bCe BK964.out 7).trans rfl;have hcz21_8 : w20.cell? ⟨gb964,8,none⟩ = some (.int .i64 a1_8):=(bCe BK964.out 8).trans rfl;have hfz21_0:=bFr BK964.out 0;have hfz21_1:=bFr BK964.out 1;have hfz21_2:=bFr BK964.out 2;have hfz21_3:=bFr BK964.out 3;have hfz21_4:=bFr BK964.out 4;have hfz21_5:=bFr BK964.out 5;have hfz21_6:=bFr BK964.out 6;have hfz21_7:=bFr BK964.out 7;have hfz21_8:=bFr BK964.out 8)|((with_reducible refine gate_callee (f:=67) rfl ?_);refine goesL_ (some 35) rfl rfl Try.func67 (by kernel_rfl) rfl #[.int .i64 a1_0,.int .i64 1] rfl (by (try simp only [List.map_toArray,List.map_cons,List.map_nil]);first | done | rfl|(simp only [List.length_drop,List.length_take];rfl)) ?_;(with_reducible refine (impl_flowWait.calls a1_0 1 t967 _ A15.out).mono ?_);rintro e w' ⟨rfl,⟨nd,rfl⟩⟩;refine ⟨_,rfl,?_⟩;(try (rw [drewN_self w20];generalize hq_ : World.drewN w20 _ = w20;have n0_ : Aside0 (Kd.R k71 71 w20 w0.heap.size (fun k_ => (P0_ k_ ∨ w.heap.size ≤ k_) ∧ k_ ≠ gb964) (.slice Ao19 l0.length co19) l0):=⟨by rw [← hq_];exact (by (with_reducible repeat (first|apply Kd.R_alloc|apply Kd.R_drewN|apply Kd.R_drew));exact HO0.out)⟩;have n1_ : Aside0 (w20.heap[gb964]? = some (.cells #[.int .i64 a1_0,.string a1_1,.int .i64 a1_2,.int .i64 a1_3,.int .i64 a1_4,.int .i64 a1_5,.int .i64 a1_6,.int .i64 a1_7,.int .i64 a1_8] 71 (0,0))):=⟨by rw [← hq_];exact (by (with_reducible repeat (first|refine bDn ?_ _|refine bDr ?_|refine bAl ?_ _));exact BK964.out)⟩;have n2_ : Aside0 (Kept w w20 (fun k_ => P0_ k_)):=⟨by rw [← hq_];exact (by repeat (first|(with_reducible first|exact HK.out|apply Kept.alloc|apply Kept.drewN|apply Kept.drew|refine Kept.setCell ?_ (.inr GW964.out) _)|exact HK.out))⟩;have n3_ : Aside0 (Below w0.heap.size w0 w20):=⟨by rw [← hq_];exact (by repeat (first|(with_reducible first|exact HB.out|apply bwA|apply bwN|apply bw1|refine below_set ?_ GE964.out)|exact HB.out))⟩;clear HO0 BK964 HK HB hq_;have HO0:=n0_;have BK964:=n1_;have HK:=n2_;have HB:=n3_;clear n0_ n1_ n2_ n3_));have hcz22_0 : w20.cell? ⟨gb964,0,none⟩ = some (.int .i64 a1_0):=(bCe BK964.out 0).trans rfl;have hcz22_1 : w20.cell? ⟨gb964,1,none⟩ = some (.string a1_1):=(bCe BK964.out 1).trans rfl;have hcz22_2 : w20.cell? ⟨gb964,2,none⟩ = some (.int .i64 a1_2):=(bCe BK964.out 2).trans rfl;have hcz22_3 : w20.cell? ⟨gb964,3,none⟩ = some (.int .i64 a1_3):=(bCe BK964.out 3).trans rfl;have hcz22_4 : w20.cell? ⟨gb964,4,none⟩ = some (.int .i64 a1_4):=(bCe BK964.out 4).trans rfl;have hcz22_5 : w20.cell? ⟨gb964,5,none⟩ = some (.int .i64 a1_5):=(bCe BK964.out 5).trans rfl;have hcz22_6 : w20.cell? ⟨gb964,6,none⟩ = some (.int .i64 a1_6):=(bCe BK964.out 6).trans rfl;have hcz22_7 : w20.cell? ⟨gb964,7,none⟩ = some (.int .i64 a1_7):=(bCe BK964.out 7).trans rfl;have hcz22_8 : w20.cell? ⟨gb964,8,none⟩ = some (.int .i64 a1_8):=(bCe BK964.out 8).trans rfl;have hfz22_0:=bFr BK964.out 0;have hfz22_1:=bFr BK964.out 1;have hfz22_2:=bFr BK964.out 2;have hfz22_3:=bFr BK964.out 3;have hfz22_4:=bFr BK964.out 4;have hfz22_5:=bFr BK964.out 5;have hfz22_6:=bFr BK964.out 6;have hfz22_7:=bFr BK964.out 7;have hfz22_8:=bFr BK964.out 8)|((with_reducible refine gate_builtin (b:=.append) (xs:=#[.tmp 39,.tmp 41]) rfl ?_);at_builtin;refine Kd.R_append k71 (w0:=w0) w0.heap.size rfl (.tmp 39) (.tmp 41) 40 71 (.agg #[(.int .i64 0),(.string ⟨#[]⟩),(.int .i64 0),(.int .i64 0),(.int .i64 0),(.int .i64 0),(.int .i64 0),(.int .i64 0),(.int .i64 0)]) 80 rfl Try.underlying40 info71 rfl (by decide) (by omega) (.slice Ao19 l0.length co19) l0 (⟨a1_0,a1_1,a1_2,a1_3,a1_4,a1_5,1,wrap64 (a2 + t967),a1_8⟩ : S71) [.int .i64 a1_0,.string a1_1,.int .i64 a1_2,.int .i64 a1_3,.int .i64 a1_4,.int .i64 a1_5,.int .i64 1,.int .i64 (wrap64 (a2 + t967)),.int .i64 a1_8] (fun k_ => (P0_ k_ ∨ w.heap.size ≤ k_) ∧ k_ ≠ gb964) (fun _ => False) rfl (by first|(go_simp;done)|(go_simp;rfl)) ?aP (fun _ hk => hk.elim) ?aF ?aO ?aB ?aS ?aL ?_;(case aP => exact k71_mkM _ _ _ (⟨a1_0,a1_1,a1_2,a1_3,a1_4,a1_5,1,wrap64 (a2 + t967),a1_8⟩ : S71));(case aB => exact (by repeat (first|(with_reducible first|exact HB.out|apply bwA|apply bwN|apply bw1|refine below_set ?_ GE964.out)|exact HB.out)));(case aF => exact (fun k_ hk => ⟨(.inr (Nat.le_trans (show Kept w _ (fun k_ => P0_ k_) from by repeat (first|(with_reducible first|exact HK.out|apply Kept.alloc|apply Kept.drewN|apply Kept.drew|refine Kept.setCell ?_ (.inr GW964.out) _)|exact HK.out)).1 hk)),Kd.freshB (g:=gb964) (o:=.cells #[.int .i64 a1_0,.string a1_1,.int .i64 a1_2,.int .i64 a1_3,.int .i64 a1_4,.int .i64 a1_5,.int .i64 1,.int .i64 (wrap64 (a2 + t967)),.int .i64 a1_8] 71 (0,0)) (by (with_reducible repeat (first|refine bDn ?_ _|refine bDr ?_|refine bAl ?_ _));refine blk_put (cs:=#[.int .i64 a1_0,.string a1_1,.int .i64 a1_2,.int .i64 a1_3,.int .i64 a1_4,.int .i64 a1_5,.int .i64 1,.int .i64 a1_7,.int .i64 a1_8]) ?_ 7 _ rfl;(with_reducible repeat (first|refine bDn ?_ _|refine bDr ?_|refine bAl ?_ _));refine blk_put (cs:=#[.int .i64 a1_0,.string a1_1,.int .i64 a1_2,.int .i64 a1_3,.int .i64 a1_4,.int .i64 a1_5,.int .i64 a1_6,.int .i64 a1_7,.int .i64 a1_8]) ?_ 6 _ rfl;(with_reducible repeat (first|refine bDn ?_ _|refine bDr ?_|refine bAl ?_ _));exact BK964.out) k_ hk⟩));(case aO => exact (by (with_reducible repeat (first|apply Kd.R_alloc|apply Kd.R_drewN|apply Kd.R_drew));exact Kd.R_mono (Kd.R_far (p:=⟨gb964,7,none⟩) (Kd.R_far (p:=⟨gb964,6,none⟩) (Kd.R_mono HO0.out (fun k_ hk => (⟨hk,hk.2⟩ : _ ∧ k_ ≠ gb964))) (fun _ hk => hk.2) (.int .i64 1)) (fun _ hk => hk.2) (.int .i64 (wrap64 (a2 + t967)))) (fun _ hk => ⟨hk.1.1,hk.1.2⟩)));(case aS => exact (below_size (by repeat (first|(with_reducible first|exact HB.out|apply bwA|apply bwN|apply bw1|refine below_set ?_ GE964.out)|exact HB.out))));(case aL => have:=LMc16.out;omega);intro v969 w23 ho hb hg hat;rw [← Ny968.out] at ho;have n0_:=aMk (blk_grown (g:=gb964) (o:=.cells #[.int .i64 a1_0,.string a1_1,.int .i64 a1_2,.int .i64 a1_3,.int .i64 a1_4,.int .i64 a1_5,.int .i64 1,.int .i64 (wrap64 (a2 + t967)),.int .i64 a1_8] 71 (0,0)) (by (with_reducible repeat (first|refine bDn ?_ _|refine bDr ?_|refine bAl ?_ _));refine blk_put (cs:=#[.int .i64 a1_0,.string a1_1,.int .i64 a1_2,.int .i64 a1_3,.int .i64 a1_4,.int .i64 a1_5,.int .i64 1,.int .i64 a1_7,.int .i64 a1_8]) ?_ 7 _ rfl;(with_reducible repeat (first|refine bDn ?_ _|refine bDr ?_|refine bAl ?_ _));refine blk_put (cs:=#[.int .i64 a1_0,.string a1_1,.int .i64 a1_2,.int .i64 a1_3,.int .i64 a1_4,.int .i64 a1_5,.int .i64 a1_6,.int .i64 a1_7,.int .i64 a1_8]) ?_ 6 _ rfl;(with_reducible repeat (first|refine bDn ?_ _|refine bDr ?_|refine bAl ?_ _));exact BK964.out) hg (Kd.R_away HO0.out (fun _ hk => hk.2)));have n1_:=aMk (hb);have n2_:=aMk (Kept.of_grown (S:=(fun k_ => P0_ k_)) hg (by repeat (first|(with_reducible first|exact HK.out|apply Kept.alloc|apply Kept.drewN|apply Kept.drew|refine Kept.setCell ?_ (.inr GW964.out) _)|exact HK.out)) (fun k_ e_ => (HO0.out.1 k_ e_).1));have n3_:=aMk (ho);clear BK964;clear HB;clear HK;clear HO0;have BK964:=n0_;have HB:=n1_;have HK:=n2_;have HO970:=n3_;clear n0_ n1_ n2_ n3_;clear ho hb hg hat))
    go_ret2
    exact ⟨_,by first | rfl|(simp [errW_none,errW_some] <;> rfl)|(simp [*,errW_none,errW_some] <;> rfl),by (with_reducible repeat (first|apply Kd.R_alloc|apply Kd.R_drewN|apply Kd.R_drew));exact Kd.R_mono HO970.out (fun _ hk => hk.1),by repeat (first|(with_reducible first|exact HB.out|apply bwA|apply bwN|apply bw1|refine below_set ?_ GE964.out)|exact HB.out),by repeat (first|(with_reducible first|exact HK.out|apply Kept.alloc|apply Kept.drewN|apply Kept.drew|refine Kept.setCell ?_ (.inr GW964.out) _)|exact HK.out)⟩
   ·rw [if_neg c16] at H
    exact absurd H (by simp)
end
section
/-! ### impl_FlowOpen: function 54 -/
def impl_FlowOpen.f (k : Nat) (l0 : List (S71)) (a1_0 : Int) (a1_1 : ByteArray) (a1_2 : Int) (a1_3 : Int) (a1_4 : Int) (a1_5 : Int) (a1_6 : Int) (a1_7 : Int) (a1_8 : Int) (a2 : Int) : Option ((List (S71)) × Int):=(impl_flowsFault.f k l0).bind fun t972 => (if t972 = 0 then ((impl_Flow_endsOKAt.f a1_0 a1_1 a1_2 a1_3 a1_4 a1_5 a1_6 a1_7 a1_8).bind fun t973 => (if t973 = true then ((impl_isTime.f a2).bind fun t974 => (if t974 = true then ((impl_Flow_100.f l0).bind fun t975 => ((impl_flowOpen.f k t975 a1_0 a1_1 a1_2 a1_3 a1_4 a1_5 a1_6 a1_7 a1_8 a2).bind fun bt978 => (some (bt978.1,bt978.2)))) else (some (([] : List (S71)),4)))) else (some (([] : List (S71)),1)))) else (some (([] : List (S71)),t972)))
theorem impl_FlowOpen.mono : ∀ a0 a1 a2 a3 a4 a5 a6 a7 a8 a9 a10 k,LeO (impl_FlowOpen.f k a0 a1 a2 a3 a4 a5 a6 a7 a8 a9 a10) (impl_FlowOpen.f (k + 1) a0 a1 a2 a3 a4 a5 a6 a7 a8 a9 a10):=by
 intro a0 a1 a2 a3 a4 a5 a6 a7 a8 a9 a10 k
 unfold impl_FlowOpen.f
 repeat' first
   | (with_reducible exact impl_flowOpen.mono ..)
   | (with_reducible exact impl_flowsFault.mono ..)
   | (with_reducible exact LeO.refl _)
   | (with_reducible exact LeO.none _)
   | (with_reducible refine LeO.ite ?_ ?_)
   | (with_reducible refine LeO.bind ?_ (fun _ => ?_))
   | exact impl_flowOpen.mono ..
   | exact impl_flowsFault.mono ..
   | exact LeO.none _
   | refine LeO.ite ?_ ?_
   | refine LeO.bind ?_ (fun _ => ?_)
def impl_FlowOpen.T8 : Bool × List (List Nat × List Nat):=(true,[([],[]),([0],[0]),([],[]),([],[]),([1,2,3,1],[1,2,3]),([4],[4]),([4],[4]),([5,4,0,1,2,3,4,5,6],[5]),([6,7,0,1,2,3,4,5,6,7],[6])])
def impl_FlowOpen.B8 : List Nat:=[0,1,0,0,15,31,31,127,255]
theorem impl_FlowOpen.tab8 : rtab .any (opsOf Try.f54 8) = impl_FlowOpen.T8:=by kernel_rfl
theorem impl_FlowOpen.bits8 : waitsOk impl_FlowOpen.T8.2 impl_FlowOpen.B8 = true:=by kernel_rfl
set_option maxHeartbeats 8000000 in
set_option maxRecDepth 100000 in
theorem impl_FlowOpen.calls (k : Nat) (A0 : Option Addr) (c0 : Nat) (l0 : List (S71)) (a1_0 : Int) (a1_1 : ByteArray) (a1_2 : Int) (a1_3 : Int) (a1_4 : Int) (a1_5 : Int) (a1_6 : Int) (a1_7 : Int) (a1_8 : Int) (a2 : Int) (r1 : List (S71)) (r2 : Int) (w : World) (hr0 : Kd.C k71 w A0 l0.length l0) (hc0 : l0.length ≤ c0) (h : impl_FlowOpen.f k l0 a1_0 a1_1 a1_2 a1_3 a1_4 a1_5 a1_6 a1_7 a1_8 a2 = some (r1,r2)) :
  Calls Try.prog 54 #[.slice A0 l0.length c0,.agg #[.int .i64 a1_0,.string a1_1,.int .i64 a1_2,.int .i64 a1_3,.int .i64 a1_4,.int .i64 a1_5,.int .i64 a1_6,.int .i64 a1_7,.int .i64 a1_8],.int .i64 a2] w fun e w' => ∃ v0_ : Value,e = .returned (.tuple #[v0_,.int .i64 r2]) ∧ Kd.R k71 71 w' w.heap.size (fun _ => True) v0_ r1 ∧ Below w.heap.size w w':=by
 have hu71:=Try.underlying71
 have HR0:=aMk hr0
 have HC0:=aMk hc0
 clear hr0 hc0
 have HB:=aMk (Below.refl w.heap.size w)
 have H : ((impl_flowsFault.f k l0).bind fun t972 => (if t972 = 0 then ((impl_Flow_endsOKAt.f a1_0 a1_1 a1_2 a1_3 a1_4 a1_5 a1_6 a1_7 a1_8).bind fun t973 => (if t973 = true then ((impl_isTime.f a2).bind fun t974 => (if t974 = true then ((impl_Flow_100.f l0).bind fun t975 => ((impl_flowOpen.f k t975 a1_0 a1_1 a1_2 a1_3 a1_4 a1_5 a1_6 a1_7 a1_8 a2).bind fun bt978 => (some (bt978.1,bt978.2)))) else (some (([] : List (S71)),4)))) else (some (([] : List (S71)),1)))) else (some (([] : List (S71)),t972)))) = some (r1,r2):=h
 clear h
 replace H:=Option.bind_eq_some_iff.mp H
 obtain ⟨t972,A40,H⟩:=H
 replace H : (if t972 = 0 then ((impl_Flow_endsOKAt.f a1_0 a1_1 a1_2 a1_3 a1_4 a1_5 a1_6 a1_7 a1_8).bind fun t973 => (if t973 = true then ((impl_isTime.f a2).bind fun t974 => (if t974 = true then ((impl_Flow_100.f l0).bind fun t975 => ((impl_flowOpen.f k t975 a1_0 a1_1 a1_2 a1_3 a1_4 a1_5 a1_6 a1_7 a1_8 a2).bind fun bt978 => (some (bt978.1,bt978.2)))) else (some (([] : List (S71)),4)))) else (some (([] : List (S71)),1)))) else (some (([] : List (S71)),t972))) = some (r1,r2):=H
 have A4:=aMk A40
 clear A40
 by_cases c5 : t972 = 0
 ·rw [if_pos c5] at H
  have c5b0 : (t972 == 0) = true:=beq_iff_eq.mpr c5
  have c5b1 : (t972 != 0) = false:=bne_eq_false_iff_eq.mpr c5
  clear c5
  replace H:=Option.bind_eq_some_iff.mp H
  obtain ⟨t973,A60,H⟩:=H
  replace H : (if t973 = true then ((impl_isTime.f a2).bind fun t974 => (if t974 = true then ((impl_Flow_100.f l0).bind fun t975 => ((impl_flowOpen.f k t975 a1_0 a1_1 a1_2 a1_3 a1_4 a1_5 a1_6 a1_7 a1_8 a2).bind fun bt978 => (some (bt978.1,bt978.2)))) else (some (([] : List (S71)),4)))) else (some (([] : List (S71)),1))) = some (r1,r2):=H
  have A6:=aMk A60
  clear A60
  by_cases c7 : t973 = true
  ·subst c7
   have H1 : ((impl_isTime.f a2).bind fun t974 => (if t974 = true then ((impl_Flow_100.f l0).bind fun t975 => ((impl_flowOpen.f k t975 a1_0 a1_1 a1_2 a1_3 a1_4 a1_5 a1_6 a1_7 a1_8 a2).bind fun bt978 => (some (bt978.1,bt978.2)))) else (some (([] : List (S71)),4)))) = some (r1,r2):=by rw [if_pos rfl] at H;exact H
   clear H
   have H:=H1
   clear H1
   replace H:=Option.bind_eq_some_iff.mp H
   obtain ⟨t974,A80,H⟩:=H
   replace H : (if t974 = true then ((impl_Flow_100.f l0).bind fun t975 => ((impl_flowOpen.f k t975 a1_0 a1_1 a1_2 a1_3 a1_4 a1_5 a1_6 a1_7 a1_8 a2).bind fun bt978 => (some (bt978.1,bt978.2)))) else (some (([] : List (S71)),4))) = some (r1,r2):=H
   have A8:=aMk A80
   clear A80
   by_cases c9 : t974 = true
   ·subst c9
    have H1 : ((impl_Flow_100.f l0).bind fun t975 => ((impl_flowOpen.f k t975 a1_0 a1_1 a1_2 a1_3 a1_4 a1_5 a1_6 a1_7 a1_8 a2).bind fun bt978 => (some (bt978.1,bt978.2)))) = some (r1,r2):=by rw [if_pos rfl] at H;exact H
    clear H
    have H:=H1
    clear H1
    replace H:=Option.bind_eq_some_iff.mp H
    obtain ⟨t975,A100,H⟩:=H
    replace H : ((impl_flowOpen.f k t975 a1_0 a1_1 a1_2 a1_3 a1_4 a1_5 a1_6 a1_7 a1_8 a2).bind fun bt978 => (some (bt978.1,bt978.2))) = some (r1,r2):=H
    have A10:=aMk A100
    clear A100
    replace H:=Option.bind_eq_some_iff.mp H
    obtain ⟨⟨t978,t981⟩,A110,H⟩:=H
    replace H : (some (t978,t981)) = some (r1,r2):=H
    have A11:=aMk A110
    clear A110
    simp only [Option.some.injEq,Prod.mk.injEq] at H
    obtain ⟨rfl,rfl⟩:=H
    go_enter Try.func54,Try.ntmps54
    try go_wp2_with (first|((with_reducible refine gate_dst (N:=4) rfl ?_);refine box_event ?hg (N:=4) ?hd (cs:=#[.int .i64 a1_0,.string a1_1,.int .i64 a1_2,.int .i64 a1_3,.int .i64 a1_4,.int .i64 a1_5,.int .i64 a1_6,.int .i64 a1_7,.int .i64 a1_8]) (t:=71) ?hr ?_;(case hd => rfl);(case hg => rfl);(case hr => first|(go_simp;done)|(go_simp;rfl));intro gb971 hg w12 hbox hb;have n0_:=aMk (below_step (by repeat first|exact HB.out|apply bwA|apply bwN|apply bw1) hb);have n1_:=aMk (hbox);have n2_:=aMk ((by rw [hg];exact (below_size (by repeat first|exact HB.out|apply bwA|apply bwN|apply bw1)) : w.heap.size ≤ gb971));have n3_:=aMk ((by rw [hg];exact (below_size (by repeat first|exact HB.out|apply bwA|apply bwN|apply bw1)) : w.heap.size ≤ gb971));clear HB;have HB:=n0_;have BK971:=n1_;have GW971:=n2_;have GE971:=n3_;clear n0_ n1_ n2_ n3_;clear hb hbox hg)|((with_reducible refine gate_callee (f:=81) rfl ?_);refine goesL_ (some 10) rfl rfl Try.func81 (by kernel_rfl) rfl #[.slice A0 l0.length c0] rfl (by (try simp only [List.map_toArray,List.map_cons,List.map_nil]);first | done | rfl|(simp only [List.length_drop,List.length_take];rfl)) ?_;(with_reducible refine (impl_flowsFault.calls k _ _ l0 t972 _ ?side1 ?side2 A4.out).mono ?_);(case side1 => repeat (first|exact (Kd.C_below HR0.out HB.out)|(with_reducible refine Kd.C_alloc ?_ _)|(with_reducible refine Kd.C_drewN ?_ _)|(with_reducible refine Kd.C_drew ?_)));(case side2 => exact HC0.out);rintro e w13 ⟨rfl,hb⟩;refine ⟨_,rfl,?_⟩;have n0_:=aMk (blk_below (g:=gb971) (o:=.cells #[.int .i64 a1_0,.string a1_1,.int .i64 a1_2,.int .i64 a1_3,.int .i64 a1_4,.int .i64 a1_5,.int .i64 a1_6,.int .i64 a1_7,.int .i64 a1_8] 71 (0,0)) (by (with_reducible repeat (first|refine bDn ?_ _|refine bDr ?_|refine bAl ?_ _));exact BK971.out) hb);have n1_:=aMk (below_step (by repeat (first|(with_reducible first|exact HB.out|apply bwA|apply bwN|apply bw1|refine below_set ?_ GE971.out)|exact HB.out)) hb);clear BK971;clear HB;have BK971:=n0_;have HB:=n1_;clear n0_ n1_;(try clear hb);(try clear hb2);(try clear hk);(try clear hi))|((with_reducible refine gate_callee (f:=77) rfl ?_);refine goesL_ (some 15) rfl rfl Try.func77 (by kernel_rfl) rfl #[.pointer (some ⟨gb971,0,none⟩)] rfl (by (try simp only [List.map_toArray,List.map_cons,List.map_nil]);first | done | rfl|(simp only [List.length_drop,List.length_take];rfl)) ?_;(with_reducible refine (impl_Flow_endsOKAt.callsB gb971 a1_0 a1_1 a1_2 a1_3 a1_4 a1_5 a1_6 a1_7 a1_8 true _ (by first|exact (bCe BK971.out 0).trans rfl|exact (bCe (by (with_reducible repeat (first|refine bDn ?_ _|refine bDr ?_|refine bAl ?_ _));exact BK971.out) 0).trans rfl) (by first|exact (bCe BK971.out 1).trans rfl|exact (bCe (by (with_reducible repeat (first|refine bDn ?_ _|refine bDr ?_|refine bAl ?_ _));exact BK971.out) 1).trans rfl) (by first|exact (bCe BK971.out 2).trans rfl|exact (bCe (by (with_reducible repeat (first|refine bDn ?_ _|refine bDr ?_|refine bAl ?_ _));exact BK971.out) 2).trans rfl) (by first|exact (bCe BK971.out 3).trans rfl|exact (bCe (by (with_reducible repeat (first|refine bDn ?_ _|refine bDr ?_|refine bAl ?_ _));exact BK971.out) 3).trans rfl) (by first|exact (bCe BK971.out 4).trans rfl|exact (bCe (by (with_reducible repeat (first|refine bDn ?_ _|refine bDr ?_|refine bAl ?_ _));exact BK971.out) 4).trans rfl) (by first|exact (bCe BK971.out 5).trans rfl|exact (bCe (by (with_reducible repeat (first|refine bDn ?_ _|refine bDr ?_|refine bAl ?_ _));exact BK971.out) 5).trans rfl) (by first|exact (bCe BK971.out 6).trans rfl|exact (bCe (by (with_reducible repeat (first|refine bDn ?_ _|refine bDr ?_|refine bAl ?_ _));exact BK971.out) 6).trans rfl) (by first|exact (bCe BK971.out 7).trans rfl|exact (bCe (by (with_reducible repeat (first|refine bDn ?_ _|refine bDr ?_|refine bAl ?_ _));exact BK971.out) 7).trans rfl) (by first|exact (bCe BK971.out 8).trans rfl|exact (bCe (by (with_reducible repeat (first|refine bDn ?_ _|refine bDr ?_|refine bAl ?_ _));exact BK971.out) 8).trans rfl) A6.out).mono ?_);rintro e w14 ⟨rfl,hb⟩;refine ⟨_,rfl,?_⟩;have n0_:=aMk (blk_below (g:=gb971) (o:=.cells #[.int .i64 a1_0,.string a1_1,.int .i64 a1_2,.int .i64 a1_3,.int .i64 a1_4,.int .i64 a1_5,.int .i64 a1_6,.int .i64 a1_7,.int .i64 a1_8] 71 (0,0)) (by (with_reducible repeat (first|refine bDn ?_ _|refine bDr ?_|refine bAl ?_ _));exact BK971.out) hb);have n1_:=aMk (below_step (by repeat (first|(with_reducible first|exact HB.out|apply bwA|apply bwN|apply bw1|refine below_set ?_ GE971.out)|exact HB.out)) hb);clear BK971;clear HB;have BK971:=n0_;have HB:=n1_;clear n0_ n1_;(try clear hb);(try clear hb2);(try clear hk);(try clear hi))|((with_reducible refine gate_callee (f:=98) rfl ?_);refine goesL_ (some 19) rfl rfl Try.func98 (by kernel_rfl) rfl #[.int .i64 a2] rfl (by (try simp only [List.map_toArray,List.map_cons,List.map_nil]);first | done | rfl|(simp only [List.length_drop,List.length_take];rfl)) ?_;(with_reducible refine (impl_isTime.calls a2 true _ A8.out).mono ?_);rintro e w' ⟨rfl,⟨nd,rfl⟩⟩;refine ⟨_,rfl,?_⟩))
    (try (rw [drewN_self w14];generalize hq_ : World.drewN w14 _ = w14;have n0_ : Aside0 (w14.heap[gb971]? = some (.cells #[.int .i64 a1_0,.string a1_1,.int .i64 a1_2,.int .i64 a1_3,.int .i64 a1_4,.int .i64 a1_5,.int .i64 a1_6,.int .i64 a1_7,.int .i64 a1_8] 71 (0,0))):=⟨by rw [← hq_];exact (by (with_reducible repeat (first|refine bDn ?_ _|refine bDr ?_|refine bAl ?_ _));exact BK971.out)⟩;have n1_ : Aside0 (Below w.heap.size w w14):=⟨by rw [← hq_];exact (by repeat (first|(with_reducible first|exact HB.out|apply bwA|apply bwN|apply bw1|refine below_set ?_ GE971.out)|exact HB.out))⟩;clear BK971 HB hq_;have BK971:=n0_;have HB:=n1_;clear n0_ n1_))
    have n0_:=aMk (bDr BK971.out)
    have n1_:=aMk (bw1 HB.out)
    clear BK971
    clear HB
    have BK971:=n0_
    have HB:=n1_
    clear n0_ n1_
    refine start_ (n:=9) (S:=fun w' => w'.cell? ⟨gb971,0,none⟩ = some (.int .i64 a1_0) ∧ w'.cell? ⟨gb971,1,none⟩ = some (.string a1_1) ∧ w'.cell? ⟨gb971,2,none⟩ = some (.int .i64 a1_2) ∧ w'.cell? ⟨gb971,3,none⟩ = some (.int .i64 a1_3) ∧ w'.cell? ⟨gb971,4,none⟩ = some (.int .i64 a1_4) ∧ w'.cell? ⟨gb971,5,none⟩ = some (.int .i64 a1_5) ∧ w'.cell? ⟨gb971,6,none⟩ = some (.int .i64 a1_6) ∧ w'.cell? ⟨gb971,7,none⟩ = some (.int .i64 a1_7) ∧ w'.cell? ⟨gb971,8,none⟩ = some (.int .i64 a1_8)) (ds:=[]) #[false,false,false,false,false,false,false,false,false] (by kernel_rfl) rfl rfl ⟨(bCe BK971.out 0).trans rfl,(bCe BK971.out 1).trans rfl,(bCe BK971.out 2).trans rfl,(bCe BK971.out 3).trans rfl,(bCe BK971.out 4).trans rfl,(bCe BK971.out 5).trans rfl,(bCe BK971.out 6).trans rfl,(bCe BK971.out 7).trans rfl,(bCe BK971.out 8).trans rfl⟩ (fun hHeld => ?_);refine with_tabW impl_FlowOpen.tab8 impl_FlowOpen.bits8 (fun HT_ HW_ => ?_)
    generalize w14.drew = w15 at BK971 HB hHeld ⊢
    refine pure_ (i:=0) (N:=some 21) (v:=?_) (a':=?_) #[true,false,false,false,false,false,false,false,false] rfl rfl (any_of HT_.out (by kernel_rfl)) (fun _ _ _ h => h) (Or.inl ⟨by rfl,?_⟩) ?_ ?_
    rotate_left
    ·intro w'
     go_simp
     with_reducible rfl
    rotate_left
    ·simp only [Act.put,List.setIfInBounds_toArray,List.set_cons_zero,List.set_cons_succ,i64_w,i32_w]
     rfl
    refine pure_ (i:=3) (N:=some 24) (v:=?_) (a':=?_) #[true,false,false,true,false,false,false,false,false] rfl rfl (any_of HT_.out (by kernel_rfl)) (fun _ _ _ h => h) (Or.inl ⟨by rfl,?_⟩) ?_ ?_
    rotate_left
    ·intro w'
     go_simp
     with_reducible rfl
    rotate_left
    ·simp only [Act.put,List.setIfInBounds_toArray,List.set_cons_zero,List.set_cons_succ,i64_w,i32_w]
     rfl
    refine take_ (i:=2) (N:=some 23) (v:=?_) (a':=?_) #[true,false,true,true,false,false,false,false,false] rfl rfl (take_ofW HT_.out HW_.out (by kernel_rfl)) (fun _ _ _ h => h) (Or.inl ⟨by rfl,?_⟩) hHeld ?_ ?_
    rotate_left
    ·rintro w' ⟨s0,s1,s2,s3,s4,s5,s6,s7,s8⟩
     go_simp
     with_reducible rfl
    rotate_left
    ·simp only [Act.put,List.setIfInBounds_toArray,List.set_cons_zero,List.set_cons_succ,i64_w,i32_w]
     rfl
    refine one_ (i:=1) (N:=some 22) #[true,true,true,true,false,false,false,false,false] rfl rfl (one_of HT_.out (by kernel_rfl)) (by decide) (fun K hK => ?_)
    refine goes_ Try.func100 (by kernel_rfl) rfl #[.slice A0 l0.length c0] (by rfl) rfl rfl (by (try simp only [List.map_toArray,List.map_cons,List.map_nil]);first | done | rfl|(simp only [List.length_drop,List.length_take];rfl)) ?_
    with_reducible refine (impl_Flow_100.calls _ _ l0 t975 _ ?side1 ?side2 A10.out).mono ?_
    (case side1 => repeat (first|exact (Kd.C_below HR0.out HB.out)|(with_reducible refine Kd.C_alloc ?_ _)|(with_reducible refine Kd.C_drewN ?_ _)|(with_reducible refine Kd.C_drew ?_)))
    (case side2 => exact HC0.out)
    rintro e w16 ⟨v976,rfl,ho0,hb⟩
    refine ⟨_,rfl,?_⟩
    have n0_:=aMk (Kd.R_lower (Kd.R_newB ho0 (g:=gb971) (o:=.cells #[.int .i64 a1_0,.string a1_1,.int .i64 a1_2,.int .i64 a1_3,.int .i64 a1_4,.int .i64 a1_5,.int .i64 a1_6,.int .i64 a1_7,.int .i64 a1_8] 71 (0,0)) (by (with_reducible repeat (first|refine bDn ?_ _|refine bDr ?_|refine bAl ?_ _));exact BK971.out)) (below_size (by repeat (first|(with_reducible first|exact HB.out|apply bwA|apply bwN|apply bw1|refine below_set ?_ GE971.out)|exact HB.out))))
    have n1_:=aMk (blk_below (g:=gb971) (o:=.cells #[.int .i64 a1_0,.string a1_1,.int .i64 a1_2,.int .i64 a1_3,.int .i64 a1_4,.int .i64 a1_5,.int .i64 a1_6,.int .i64 a1_7,.int .i64 a1_8] 71 (0,0)) (by (with_reducible repeat (first|refine bDn ?_ _|refine bDr ?_|refine bAl ?_ _));exact BK971.out) hb)
    have n2_:=aMk (below_step (by repeat (first|(with_reducible first|exact HB.out|apply bwA|apply bwN|apply bw1|refine below_set ?_ GE971.out)|exact HB.out)) hb)
    clear BK971
    clear HB
    have HO977:=n0_
    have BK971:=n1_
    have HB:=n2_
    clear n0_ n1_ n2_
    (try clear hb)
    (try clear hb2)
    (try clear hk)
    (try clear hi)
    (try clear ho0)
    obtain ⟨Ao17,co17,eo17⟩:=Kd.R_slice HO977.out
    (first|subst eo17|(injection eo17 with f1_ f2_ f3_;have f4_:=f1_.symm;have f5_:=f3_.symm;clear f1_ f2_ f3_;subst f4_;subst f5_))
    refine hK.out _ _ ⟨(bCe BK971.out 0).trans rfl,(bCe BK971.out 1).trans rfl,(bCe BK971.out 2).trans rfl,(bCe BK971.out 3).trans rfl,(bCe BK971.out 4).trans rfl,(bCe BK971.out 5).trans rfl,(bCe BK971.out 6).trans rfl,(bCe BK971.out 7).trans rfl,(bCe BK971.out 8).trans rfl⟩ (fun hHeld => ?_)
    clear hK K
    refine norm_ (a':=?_) ?_ ?_
    rotate_left
    ·show Act.put _ (some 22) _ = _
     simp only [Act.put,List.setIfInBounds_toArray,List.set_cons_zero,List.set_cons_succ,i64_w,i32_w]
     rfl
    refine one_ (i:=4) (N:=some 25) #[true,true,true,true,true,false,false,false,false] rfl rfl (one_of HT_.out (by kernel_rfl)) (by decide) (fun K hK => ?_)
    refine goes_ Try.func99 (by kernel_rfl) rfl #[.slice Ao17 t975.length co17,.agg #[.int .i64 a1_0,.string a1_1,.int .i64 a1_2,.int .i64 a1_3,.int .i64 a1_4,.int .i64 a1_5,.int .i64 a1_6,.int .i64 a1_7,.int .i64 a1_8],.int .i64 a2] (by rfl) rfl rfl (by (try simp only [List.map_toArray,List.map_cons,List.map_nil]);first | done | rfl|(simp only [List.length_drop,List.length_take];rfl)) ?_
    with_reducible refine (impl_flowOpen.calls k (fun k_ => some k_ = (.slice Ao17 t975.length co17 : Value).ownBlock) (.slice Ao17 t975.length co17) t975 a1_0 a1_1 a1_2 a1_3 a1_4 a1_5 a1_6 a1_7 a1_8 a2 t978 t981 w _ ?side1 ?side2 A11.out).mono ?_
    (case side1 => repeat (first|(with_reducible first|exact HB.out|apply bwA|apply bwN|apply bw1|refine below_set ?_ GE971.out)|exact HB.out))
    (case side2 => exact Kd.R_tight rfl HO977.out)
    rintro e w18 ⟨v979,rfl,ho0,hb,hkp⟩
    refine ⟨_,rfl,?_⟩
    have n0_:=aMk (blk_kept (by (with_reducible repeat (first|refine bDn ?_ _|refine bDr ?_|refine bAl ?_ _));exact BK971.out) hkp (fun hs_ => (fun e_ => (Kd.R_away HO977.out (fun _ hk => hk.2)) e_) hs_))
    have n1_:=aMk (Kd.R_mono (ok':=fun k_ => k_ ≠ gb971) ho0 (fun k_ hk_ => Or.elim hk_ (fun hs_ => fun e_ => (Kd.R_away HO977.out (fun _ hk => hk.2)) (by rw [← e_];exact hs_)) (fun hn_ => (Kd.freshB (g:=gb971) (o:=.cells #[.int .i64 a1_0,.string a1_1,.int .i64 a1_2,.int .i64 a1_3,.int .i64 a1_4,.int .i64 a1_5,.int .i64 a1_6,.int .i64 a1_7,.int .i64 a1_8] 71 (0,0)) (by (with_reducible repeat (first|refine bDn ?_ _|refine bDr ?_|refine bAl ?_ _));exact BK971.out) k_ hn_))))
    have n2_:=aMk (hb)
    clear BK971
    clear HB
    clear HO977
    have BK971:=n0_
    have HO980:=n1_
    have HB:=n2_
    clear n0_ n1_ n2_
    (try clear hb)
    (try clear hkp)
    (try clear ho0)
    refine hK.out _ _ ⟨(bCe BK971.out 0).trans rfl,(bCe BK971.out 1).trans rfl,(bCe BK971.out 2).trans rfl,(bCe BK971.out 3).trans rfl,(bCe BK971.out 4).trans rfl,(bCe BK971.out 5).trans rfl,(bCe BK971.out 6).trans rfl,(bCe BK971.out 7).trans rfl,(bCe BK971.out 8).trans rfl⟩ (fun hHeld => ?_)
    clear hK K
    refine norm_ (a':=?_) ?_ ?_
    rotate_left
    ·show Act.put _ (some 25) _ = _
     simp only [Act.put,List.setIfInBounds_toArray,List.set_cons_zero,List.set_cons_succ,i64_w,i32_w]
     rfl
    refine pure_ (i:=5) (N:=some 26) (v:=?_) (a':=?_) #[true,true,true,true,true,true,false,false,false] rfl rfl (any_of HT_.out (by kernel_rfl)) (fun _ _ _ h => h) (Or.inl ⟨by rfl,?_⟩) ?_ ?_
    rotate_left
    ·intro w'
     go_simp
     with_reducible rfl
    rotate_left
    ·simp only [Act.put,List.setIfInBounds_toArray,List.set_cons_zero,List.set_cons_succ,i64_w,i32_w]
     rfl
    refine pure_ (i:=6) (N:=some 27) (v:=?_) (a':=?_) #[true,true,true,true,true,true,true,false,false] rfl rfl (any_of HT_.out (by kernel_rfl)) (fun _ _ _ h => h) (Or.inl ⟨by rfl,?_⟩) ?_ ?_
    rotate_left
    ·intro w'
     go_simp
     with_reducible rfl
    rotate_left
    ·simp only [Act.put,List.setIfInBounds_toArray,List.set_cons_zero,List.set_cons_succ,i64_w,i32_w]
     rfl
    refine pure_ (i:=7) (N:=some 6) (v:=?_) (a':=?_) #[true,true,true,true,true,true,true,true,false] rfl rfl (any_of HT_.out (by kernel_rfl)) (fun _ _ _ h => h) (Or.inl ⟨by rfl,?_⟩) ?_ ?_
    rotate_left
    ·intro w'
     go_simp
     with_reducible rfl
    rotate_left
    ·simp only [Act.put,List.setIfInBounds_toArray,List.set_cons_zero,List.set_cons_succ,i64_w,i32_w]
     rfl
    refine pure_ (i:=8) (N:=some 7) (v:=?_) (a':=?_) #[true,true,true,true,true,true,true,true,true] rfl rfl (any_of HT_.out (by kernel_rfl)) (fun _ _ _ h => h) (Or.inl ⟨by rfl,?_⟩) ?_ ?_
    rotate_left
    ·intro w'
     go_simp
     with_reducible rfl
    rotate_left
    ·simp only [Act.put,List.setIfInBounds_toArray,List.set_cons_zero,List.set_cons_succ,i64_w,i32_w]
     rfl
    refine done_ (done_of HT_.out (by kernel_rfl)) ?_
    try go_wp2
    go_ret2
    exact ⟨_,by first | rfl|(simp [errW_none,errW_some] <;> rfl)|(simp [*,errW_none,errW_some] <;> rfl),by (with_reducible repeat (first|apply Kd.R_alloc|apply Kd.R_drewN|apply Kd.R_drew));exact Kd.R_mono HO980.out (fun _ hk => trivial),by repeat (first|(with_reducible first|exact HB.out|apply bwA|apply bwN|apply bw1|refine below_set ?_ GE971.out)|exact HB.out)⟩
   ·replace c9:=Bool.eq_false_iff.mpr c9
    subst c9
    have H1 : (some (([] : List (S71)),4)) = some (r1,r2):=by rw [if_neg (show ¬ (false = true) by decide)] at H;exact H
    clear H
    have H:=H1
    clear H1
    simp only [Option.some.injEq,Prod.mk.injEq] at H
    obtain ⟨rfl,rfl⟩:=H
    go_enter Try.func54,Try.ntmps54
    go_wp2_with (first|((with_reducible refine gate_dst (N:=4) rfl ?_);refine box_event ?hg (N:=4) ?hd (cs:=#[.int .i64 a1_0,.string a1_1,.int .i64 a1_2,.int .i64 a1_3,.int .i64 a1_4,.int .i64 a1_5,.int .i64 a1_6,.int .i64 a1_7,.int .i64 a1_8]) (t:=71) ?hr ?_;(case hd => rfl);(case hg => rfl);(case hr => first|(go_simp;done)|(go_simp;rfl));intro gb971 hg w19 hbox hb;have n0_:=aMk (below_step (by repeat first|exact HB.out|apply bwA|apply bwN|apply bw1) hb);have n1_:=aMk (hbox);have n2_:=aMk ((by rw [hg];exact (below_size (by repeat first|exact HB.out|apply bwA|apply bwN|apply bw1)) : w.heap.size ≤ gb971));have n3_:=aMk ((by rw [hg];exact (below_size (by repeat first|exact HB.out|apply bwA|apply bwN|apply bw1)) : w.heap.size ≤ gb971));clear HB;have HB:=n0_;have BK971:=n1_;have GW971:=n2_;have GE971:=n3_;clear n0_ n1_ n2_ n3_;clear hb hbox hg)|((with_reducible refine gate_callee (f:=81) rfl ?_);refine goesL_ (some 10) rfl rfl Try.func81 (by kernel_rfl) rfl #[.slice A0 l0.length c0] rfl (by (try simp only [List.map_toArray,List.map_cons,List.map_nil]);first | done | rfl|(simp only [List.length_drop,List.length_take];rfl)) ?_;(with_reducible refine (impl_flowsFault.calls k _ _ l0 t972 _ ?side1 ?side2 A4.out).mono ?_);(case side1 => repeat (first|exact (Kd.C_below HR0.out HB.out)|(with_reducible refine Kd.C_alloc ?_ _)|(with_reducible refine Kd.C_drewN ?_ _)|(with_reducible refine Kd.C_drew ?_)));(case side2 => exact HC0.out);rintro e w20 ⟨rfl,hb⟩;refine ⟨_,rfl,?_⟩;have n0_:=aMk (blk_below (g:=gb971) (o:=.cells #[.int .i64 a1_0,.string a1_1,.int .i64 a1_2,.int .i64 a1_3,.int .i64 a1_4,.int .i64 a1_5,.int .i64 a1_6,.int .i64 a1_7,.int .i64 a1_8] 71 (0,0)) (by (with_reducible repeat (first|refine bDn ?_ _|refine bDr ?_|refine bAl ?_ _));exact BK971.out) hb);have n1_:=aMk (below_step (by repeat (first|(with_reducible first|exact HB.out|apply bwA|apply bwN|apply bw1|refine below_set ?_ GE971.out)|exact HB.out)) hb);clear BK971;clear HB;have BK971:=n0_;have HB:=n1_;clear n0_ n1_;(try clear hb);(try clear hb2);(try clear hk);(try clear hi))|((with_reducible refine gate_callee (f:=77) rfl ?_);refine goesL_ (some 15) rfl rfl Try.func77 (by kernel_rfl) rfl #[.pointer (some ⟨gb971,0,none⟩)] rfl (by (try simp only [List.map_toArray,List.map_cons,List.map_nil]);first | done | rfl|(simp only [List.length_drop,List.length_take];rfl)) ?_;(with_reducible refine (impl_Flow_endsOKAt.callsB gb971 a1_0 a1_1 a1_2 a1_3 a1_4 a1_5 a1_6 a1_7 a1_8 true _ (by first|exact (bCe BK971.out 0).trans rfl|exact (bCe (by (with_reducible repeat (first|refine bDn ?_ _|refine bDr ?_|refine bAl ?_ _));exact BK971.out) 0).trans rfl) (by first|exact (bCe BK971.out 1).trans rfl|exact (bCe (by (with_reducible repeat (first|refine bDn ?_ _|refine bDr ?_|refine bAl ?_ _));exact BK971.out) 1).trans rfl) (by first|exact (bCe BK971.out 2).trans rfl|exact (bCe (by (with_reducible repeat (first|refine bDn ?_ _|refine bDr ?_|refine bAl ?_ _));exact BK971.out) 2).trans rfl) (by first|exact (bCe BK971.out 3).trans rfl|exact (bCe (by (with_reducible repeat (first|refine bDn ?_ _|refine bDr ?_|refine bAl ?_ _));exact BK971.out) 3).trans rfl) (by first|exact (bCe BK971.out 4).trans rfl|exact (bCe (by (with_reducible repeat (first|refine bDn ?_ _|refine bDr ?_|refine bAl ?_ _));exact BK971.out) 4).trans rfl) (by first|exact (bCe BK971.out 5).trans rfl|exact (bCe (by (with_reducible repeat (first|refine bDn ?_ _|refine bDr ?_|refine bAl ?_ _));exact BK971.out) 5).trans rfl) (by first|exact (bCe BK971.out 6).trans rfl|exact (bCe (by (with_reducible repeat (first|refine bDn ?_ _|refine bDr ?_|refine bAl ?_ _));exact BK971.out) 6).trans rfl) (by first|exact (bCe BK971.out 7).trans rfl|exact (bCe (by (with_reducible repeat (first|refine bDn ?_ _|refine bDr ?_|refine bAl ?_ _));exact BK971.out) 7).trans rfl) (by first|exact (bCe BK971.out 8).trans rfl|exact (bCe (by (with_reducible repeat (first|refine bDn ?_ _|refine bDr ?_|refine bAl ?_ _));exact BK971.out) 8).trans rfl) A6.out).mono ?_);rintro e w21 ⟨rfl,hb⟩;refine ⟨_,rfl,?_⟩;have n0_:=aMk (blk_below (g:=gb971) (o:=.cells #[.int .i64 a1_0,.string a1_1,.int .i64 a1_2,.int .i64 a1_3,.int .i64 a1_4,.int .i64 a1_5,.int .i64 a1_6,.int .i64 a1_7,.int .i64 a1_8] 71 (0,0)) (by (with_reducible repeat (first|refine bDn ?_ _|refine bDr ?_|refine bAl ?_ _));exact BK971.out) hb);have n1_:=aMk (below_step (by repeat (first|(with_reducible first|exact HB.out|apply bwA|apply bwN|apply bw1|refine below_set ?_ GE971.out)|exact HB.out)) hb);clear BK971;clear HB;have BK971:=n0_;have HB:=n1_;clear n0_ n1_;(try clear hb);(try clear hb2);(try clear hk);(try clear hi))|((with_reducible refine gate_callee (f:=98) rfl ?_);refine goesL_ (some 19) rfl rfl Try.func98 (by kernel_rfl) rfl #[.int .i64 a2] rfl (by (try simp only [List.map_toArray,List.map_cons,List.map_nil]);first | done | rfl|(simp only [List.length_drop,List.length_take];rfl)) ?_;(with_reducible refine (impl_isTime.calls a2 false _ A8.out).mono ?_);rintro e w' ⟨rfl,⟨nd,rfl⟩⟩;refine ⟨_,rfl,?_⟩))
    go_ret2
    exact ⟨_,by first | rfl|(simp [errW_none,errW_some] <;> rfl)|(simp [*,errW_none,errW_some] <;> rfl),by first|exact Kd.R_nil _ _ _ _ _|exact Kd.N_nil _ _ _ _ _|exact Kd.V_nil _ _ _ _ _|exact Kd.Q_nil _ _ _ _ _|exact Kd.S_nil _ _ _ _ _,by repeat (first|(with_reducible first|exact HB.out|apply bwA|apply bwN|apply bw1|refine below_set ?_ GE971.out)|exact HB.out)⟩
  ·replace c7:=Bool.eq_false_iff.mpr c7
   subst c7
   have H1 : (some (([] : List (S71)),1)) = some (r1,r2):=by rw [if_neg (show ¬ (false = true) by decide)] at H;exact H
   clear H
   have H:=H1
   clear H1
   simp only [Option.some.injEq,Prod.mk.injEq] at H
   obtain ⟨rfl,rfl⟩:=H
   go_enter Try.func54,Try.ntmps54
   go_wp2_with (first|((with_reducible refine gate_dst (N:=4) rfl ?_);refine box_event ?hg (N:=4) ?hd (cs:=#[.int .i64 a1_0,.string a1_1,.int .i64 a1_2,.int .i64 a1_3,.int .i64 a1_4,.int .i64 a1_5,.int .i64 a1_6,.int .i64 a1_7,.int .i64 a1_8]) (t:=71) ?hr ?_;(case hd => rfl);(case hg => rfl);(case hr => first|(go_simp;done)|(go_simp;rfl));intro gb971 hg w22 hbox hb;have n0_:=aMk (below_step (by repeat first|exact HB.out|apply bwA|apply bwN|apply bw1) hb);have n1_:=aMk (hbox);have n2_:=aMk ((by rw [hg];exact (below_size (by repeat first|exact HB.out|apply bwA|apply bwN|apply bw1)) : w.heap.size ≤ gb971));have n3_:=aMk ((by rw [hg];exact (below_size (by repeat first|exact HB.out|apply bwA|apply bwN|apply bw1)) : w.heap.size ≤ gb971));clear HB;have HB:=n0_;have BK971:=n1_;have GW971:=n2_;have GE971:=n3_;clear n0_ n1_ n2_ n3_;clear hb hbox hg)|((with_reducible refine gate_callee (f:=81) rfl ?_);refine goesL_ (some 10) rfl rfl Try.func81 (by kernel_rfl) rfl #[.slice A0 l0.length c0] rfl (by (try simp only [List.map_toArray,List.map_cons,List.map_nil]);first | done | rfl|(simp only [List.length_drop,List.length_take];rfl)) ?_;(with_reducible refine (impl_flowsFault.calls k _ _ l0 t972 _ ?side1 ?side2 A4.out).mono ?_);(case side1 => repeat (first|exact (Kd.C_below HR0.out HB.out)|(with_reducible refine Kd.C_alloc ?_ _)|(with_reducible refine Kd.C_drewN ?_ _)|(with_reducible refine Kd.C_drew ?_)));(case side2 => exact HC0.out);rintro e w23 ⟨rfl,hb⟩;refine ⟨_,rfl,?_⟩;have n0_:=aMk (blk_below (g:=gb971) (o:=.cells #[.int .i64 a1_0,.string a1_1,.int .i64 a1_2,.int .i64 a1_3,.int .i64 a1_4,.int .i64 a1_5,.int .i64 a1_6,.int .i64 a1_7,.int .i64 a1_8] 71 (0,0)) (by (with_reducible repeat (first|refine bDn ?_ _|refine bDr ?_|refine bAl ?_ _));exact BK971.out) hb);have n1_:=aMk (below_step (by repeat (first|(with_reducible first|exact HB.out|apply bwA|apply bwN|apply bw1|refine below_set ?_ GE971.out)|exact HB.out)) hb);clear BK971;clear HB;have BK971:=n0_;have HB:=n1_;clear n0_ n1_;(try clear hb);(try clear hb2);(try clear hk);(try clear hi))|((with_reducible refine gate_callee (f:=77) rfl ?_);refine goesL_ (some 15) rfl rfl Try.func77 (by kernel_rfl) rfl #[.pointer (some ⟨gb971,0,none⟩)] rfl (by (try simp only [List.map_toArray,List.map_cons,List.map_nil]);first | done | rfl|(simp only [List.length_drop,List.length_take];rfl)) ?_;(with_reducible refine (impl_Flow_endsOKAt.callsB gb971 a1_0 a1_1 a1_2 a1_3 a1_4 a1_5 a1_6 a1_7 a1_8 false _ (by first|exact (bCe BK971.out 0).trans rfl|exact (bCe (by (with_reducible repeat (first|refine bDn ?_ _|refine bDr ?_|refine bAl ?_ _));exact BK971.out) 0).trans rfl) (by first|exact (bCe BK971.out 1).trans rfl|exact (bCe (by (with_reducible repeat (first|refine bDn ?_ _|refine bDr ?_|refine bAl ?_ _));exact BK971.out) 1).trans rfl) (by first|exact (bCe BK971.out 2).trans rfl|exact (bCe (by (with_reducible repeat (first|refine bDn ?_ _|refine bDr ?_|refine bAl ?_ _));exact BK971.out) 2).trans rfl) (by first|exact (bCe BK971.out 3).trans rfl|exact (bCe (by (with_reducible repeat (first|refine bDn ?_ _|refine bDr ?_|refine bAl ?_ _));exact BK971.out) 3).trans rfl) (by first|exact (bCe BK971.out 4).trans rfl|exact (bCe (by (with_reducible repeat (first|refine bDn ?_ _|refine bDr ?_|refine bAl ?_ _));exact BK971.out) 4).trans rfl) (by first|exact (bCe BK971.out 5).trans rfl|exact (bCe (by (with_reducible repeat (first|refine bDn ?_ _|refine bDr ?_|refine bAl ?_ _));exact BK971.out) 5).trans rfl) (by first|exact (bCe BK971.out 6).trans rfl|exact (bCe (by (with_reducible repeat (first|refine bDn ?_ _|refine bDr ?_|refine bAl ?_ _));exact BK971.out) 6).trans rfl) (by first|exact (bCe BK971.out 7).trans rfl|exact (bCe (by (with_reducible repeat (first|refine bDn ?_ _|refine bDr ?_|refine bAl ?_ _));exact BK971.out) 7).trans rfl) (by first|exact (bCe BK971.out 8).trans rfl|exact (bCe (by (with_reducible repeat (first|refine bDn ?_ _|refine bDr ?_|refine bAl ?_ _));exact BK971.out) 8).trans rfl) A6.out).mono ?_);rintro e w24 ⟨rfl,hb⟩;refine ⟨_,rfl,?_⟩;have n0_:=aMk (blk_below (g:=gb971) (o:=.cells #[.int .i64 a1_0,.string a1_1,.int .i64 a1_2,.int .i64 a1_3,.int .i64 a1_4,.int .i64 a1_5,.int .i64 a1_6,.int .i64 a1_7,.int .i64 a1_8] 71 (0,0)) (by (with_reducible repeat (first|refine bDn ?_ _|refine bDr ?_|refine bAl ?_ _));exact BK971.out) hb);have n1_:=aMk (below_step (by repeat (first|(with_reducible first|exact HB.out|apply bwA|apply bwN|apply bw1|refine below_set ?_ GE971.out)|exact HB.out)) hb);clear BK971;clear HB;have BK971:=n0_;have HB:=n1_;clear n0_ n1_;(try clear hb);(try clear hb2);(try clear hk);(try clear hi)))
   go_ret2
   exact ⟨_,by first | rfl|(simp [errW_none,errW_some] <;> rfl)|(simp [*,errW_none,errW_some] <;> rfl),by first|exact Kd.R_nil _ _ _ _ _|exact Kd.N_nil _ _ _ _ _|exact Kd.V_nil _ _ _ _ _|exact Kd.Q_nil _ _ _ _ _|exact Kd.S_nil _ _ _ _ _,by repeat (first|(with_reducible first|exact HB.out|apply bwA|apply bwN|apply bw1|refine below_set ?_ GE971.out)|exact HB.out)⟩
 ·rw [if_neg c5] at H
  have c5b0 : (t972 == 0) = false:=beq_eq_false_iff_ne.mpr c5
  have c5b1 : (t972 != 0) = true:=bne_iff_ne.mpr c5
  simp only [Option.some.injEq,Prod.mk.injEq] at H
  obtain ⟨rfl,rfl⟩:=H
  go_enter Try.func54,Try.ntmps54
  go_wp2_with (first|((with_reducible refine gate_dst (N:=4) rfl ?_);refine box_event ?hg (N:=4) ?hd (cs:=#[.int .i64 a1_0,.string a1_1,.int .i64 a1_2,.int .i64 a1_3,.int .i64 a1_4,.int .i64 a1_5,.int .i64 a1_6,.int .i64 a1_7,.int .i64 a1_8]) (t:=71) ?hr ?_;(case hd => rfl);(case hg => rfl);(case hr => first|(go_simp;done)|(go_simp;rfl));intro gb971 hg w25 hbox hb;have n0_:=aMk (below_step (by repeat first|exact HB.out|apply bwA|apply bwN|apply bw1) hb);have n1_:=aMk (hbox);have n2_:=aMk ((by rw [hg];exact (below_size (by repeat first|exact HB.out|apply bwA|apply bwN|apply bw1)) : w.heap.size ≤ gb971));have n3_:=aMk ((by rw [hg];exact (below_size (by repeat first|exact HB.out|apply bwA|apply bwN|apply bw1)) : w.heap.size ≤ gb971));clear HB;have HB:=n0_;have BK971:=n1_;have GW971:=n2_;have GE971:=n3_;clear n0_ n1_ n2_ n3_;clear hb hbox hg)|((with_reducible refine gate_callee (f:=81) rfl ?_);refine goesL_ (some 10) rfl rfl Try.func81 (by kernel_rfl) rfl #[.slice A0 l0.length c0] rfl (by (try simp only [List.map_toArray,List.map_cons,List.map_nil]);first | done | rfl|(simp only [List.length_drop,List.length_take];rfl)) ?_;(with_reducible refine (impl_flowsFault.calls k _ _ l0 t972 _ ?side1 ?side2 A4.out).mono ?_);(case side1 => repeat (first|exact (Kd.C_below HR0.out HB.out)|(with_reducible refine Kd.C_alloc ?_ _)|(with_reducible refine Kd.C_drewN ?_ _)|(with_reducible refine Kd.C_drew ?_)));(case side2 => exact HC0.out);rintro e w26 ⟨rfl,hb⟩;refine ⟨_,rfl,?_⟩;have n0_:=aMk (blk_below (g:=gb971) (o:=.cells #[.int .i64 a1_0,.string a1_1,.int .i64 a1_2,.int .i64 a1_3,.int .i64 a1_4,.int .i64 a1_5,.int .i64 a1_6,.int .i64 a1_7,.int .i64 a1_8] 71 (0,0)) (by (with_reducible repeat (first|refine bDn ?_ _|refine bDr ?_|refine bAl ?_ _));exact BK971.out) hb);have n1_:=aMk (below_step (by repeat (first|(with_reducible first|exact HB.out|apply bwA|apply bwN|apply bw1|refine below_set ?_ GE971.out)|exact HB.out)) hb);clear BK971;clear HB;have BK971:=n0_;have HB:=n1_;clear n0_ n1_;(try clear hb);(try clear hb2);(try clear hk);(try clear hi)))
  go_ret2
  exact ⟨_,by first | rfl|(simp [errW_none,errW_some] <;> rfl)|(simp [*,errW_none,errW_some] <;> rfl),by first|exact Kd.R_nil _ _ _ _ _|exact Kd.N_nil _ _ _ _ _|exact Kd.V_nil _ _ _ _ _|exact Kd.Q_nil _ _ _ _ _|exact Kd.S_nil _ _ _ _ _,by repeat (first|(with_reducible first|exact HB.out|apply bwA|apply bwN|apply bw1|refine below_set ?_ GE971.out)|exact HB.out)⟩
end
end Go.Proofs.Ytlpkldomoniegaa.X
