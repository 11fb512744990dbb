/- Texts that the row of FnExactConnTake stands on: functions of the program and of the reference, each as a Lean function with the same answers, and the plain lemmas. Conditions: none beside those that each theorem names. -/
import Derived.Test.YtlpkldomoniegaaCFnExactConnTake3
namespace Go.Proofs.Ytlpkldomoniegaa.X
open Go.RowKit Go.Proofs.YtlpkldomoniegaaW.PrintWords Go.Proofs.YtlpkldomoniegaaW.PrintLast Go.Proofs.YtlpkldomoniegaaW.PrintMore
attribute [local go_sem] max2_int min2_int max_two min_two max_three min_three max_four min_four   -- for this text's walks alone
set_option linter.unusedVariables false
set_option linter.unusedSimpArgs false
open Go.Proofs.YtlpkldomoniegaaW.PrintWords renaming blk_drewN -> bDn
open Go.Proofs.YtlpkldomoniegaaW.PrintWords renaming blk_drew -> bDr
open Go.Proofs.YtlpkldomoniegaaW.PrintWords renaming blk_alloc -> bAl
open Go.Proofs.YtlpkldomoniegaaW.PrintWords renaming blk_frozen -> bFr
open Go.Proofs.YtlpkldomoniegaaW.PrintWords renaming blk_cell -> bCe
open Go.Proofs.YtlpkldomoniegaaW.PrintWords.Aside0 renaming mk -> aMk
open Go.World renaming block_lt_of_cell? -> wLt
open Go.Proofs.YtlpkldomoniegaaW.PrintWords renaming pw_below_drewN -> bwN
open Go.Proofs.YtlpkldomoniegaaW.PrintWords renaming below_drew1 -> bw1
open Go.Proofs.YtlpkldomoniegaaW.PrintWords renaming below_alloc -> bwA
section
/-! ### impl_ConnOK: function 25 -/
mutual
def impl_ConnOK.j0:Nat→Bool→ByteArray→Int→Int→Int→Int→Int→Int→Int→ByteArray→ByteArray→Bool→Option (Bool)
 | 0,_,_,_,_,_,_,_,_,_,_,_,_ => none
 | k + 1,x30,x167000,x167001,x167002,x167003,x167004,x167005,x167006,x167007,x167008,x167009,x167010 => if x30 = true then (some false) else ((impl_isAddress.f x167005).bind fun t172 => (if t172 = true then ((impl_isAddress.f x167006).bind fun t173 => (if t173 = true then ((impl_isAddress.f x167007).bind fun t174 => (if t174 = true then (if (x167008.size:Int) > 300 then (impl_ConnOK.j1 k true x167000 x167001 x167002 x167003 x167004 x167005 x167006 x167007 x167008 x167009 x167010) else (impl_ConnOK.j1 k (decide ((x167009.size:Int) > 300)) x167000 x167001 x167002 x167003 x167004 x167005 x167006 x167007 x167008 x167009 x167010)) else (impl_ConnOK.j1 k true x167000 x167001 x167002 x167003 x167004 x167005 x167006 x167007 x167008 x167009 x167010))) else (impl_ConnOK.j1 k true x167000 x167001 x167002 x167003 x167004 x167005 x167006 x167007 x167008 x167009 x167010))) else (impl_ConnOK.j1 k true x167000 x167001 x167002 x167003 x167004 x167005 x167006 x167007 x167008 x167009 x167010)))
def impl_ConnOK.j1:Nat→Bool→ByteArray→Int→Int→Int→Int→Int→Int→Int→ByteArray→ByteArray→Bool→Option (Bool)
 | 0,_,_,_,_,_,_,_,_,_,_,_,_ => none
 | k + 1,x58,x167000,x167001,x167002,x167003,x167004,x167005,x167006,x167007,x167008,x167009,x167010 => if x58 = true then (some false) else (if (x167010 != (x167004 == 3)) = true then (impl_ConnOK.j2 k true x167000 x167001 x167002 x167003 x167004 x167005 x167006 x167007 x167008 x167009 x167010) else (if x167010 = true then (if x167004 = 1 then (impl_ConnOK.j2 k (x167008.toList != ([]:List UInt8)) x167000 x167001 x167002 x167003 x167004 x167005 x167006 x167007 x167008 x167009 x167010) else (impl_ConnOK.j2 k false x167000 x167001 x167002 x167003 x167004 x167005 x167006 x167007 x167008 x167009 x167010)) else (if x167009.toList = ([]:List UInt8) then (if x167004 = 1 then (impl_ConnOK.j2 k (x167008.toList != ([]:List UInt8)) x167000 x167001 x167002 x167003 x167004 x167005 x167006 x167007 x167008 x167009 x167010) else (impl_ConnOK.j2 k false x167000 x167001 x167002 x167003 x167004 x167005 x167006 x167007 x167008 x167009 x167010)) else (impl_ConnOK.j2 k true x167000 x167001 x167002 x167003 x167004 x167005 x167006 x167007 x167008 x167009 x167010))))
def impl_ConnOK.j2:Nat→Bool→ByteArray→Int→Int→Int→Int→Int→Int→Int→ByteArray→ByteArray→Bool→Option (Bool)
 | 0,_,_,_,_,_,_,_,_,_,_,_,_ => none
 | k + 1,x84,x167000,x167001,x167002,x167003,x167004,x167005,x167006,x167007,x167008,x167009,x167010 => if x84 = true then (some false) else ((impl_behind.f x167006 x167005).bind fun t175 => ((impl_oneIf.f x167010).bind fun t176 => ((impl_oneIf.f (x167004 == 1)).bind fun t177 => (some (t175 == (wrap64 ((wrap64 ((x167009.size:Int) + t176)) + t177)))))))
end
def impl_ConnOK.f (k:Nat) (a0_0:ByteArray) (a0_1 a0_2:Int) (a0_3 a0_4:Int) (a0_5 a0_6 a0_7:Int) (a0_8 a0_9:ByteArray) (a0_10:Bool):Option (Bool):=(impl_macOK.f a0_0).bind fun t167 => (if t167 = true then ((impl_isAddress.f a0_1).bind fun t168 => (if t168 = true then ((impl_isPort.f a0_2).bind fun t169 => (if t169 = true then ((impl_isAddress.f a0_3).bind fun t170 => (if t170 = true then ((impl_within.f a0_4 1 4).bind fun t171 => (impl_ConnOK.j0 k (!t171) a0_0 a0_1 a0_2 a0_3 a0_4 a0_5 a0_6 a0_7 a0_8 a0_9 a0_10)) else (impl_ConnOK.j0 k true a0_0 a0_1 a0_2 a0_3 a0_4 a0_5 a0_6 a0_7 a0_8 a0_9 a0_10))) else (impl_ConnOK.j0 k true a0_0 a0_1 a0_2 a0_3 a0_4 a0_5 a0_6 a0_7 a0_8 a0_9 a0_10))) else (impl_ConnOK.j0 k true a0_0 a0_1 a0_2 a0_3 a0_4 a0_5 a0_6 a0_7 a0_8 a0_9 a0_10))) else (impl_ConnOK.j0 k true a0_0 a0_1 a0_2 a0_3 a0_4 a0_5 a0_6 a0_7 a0_8 a0_9 a0_10))
theorem impl_ConnOK.mono_l:∀ k,(∀ y0 y1 y2 y3 y4 y5 y6 y7 y8 y9 y10 y11,LeO (impl_ConnOK.j0 k y0 y1 y2 y3 y4 y5 y6 y7 y8 y9 y10 y11) (impl_ConnOK.j0 (k + 1) y0 y1 y2 y3 y4 y5 y6 y7 y8 y9 y10 y11))∧(∀ y0 y1 y2 y3 y4 y5 y6 y7 y8 y9 y10 y11,LeO (impl_ConnOK.j1 k y0 y1 y2 y3 y4 y5 y6 y7 y8 y9 y10 y11) (impl_ConnOK.j1 (k + 1) y0 y1 y2 y3 y4 y5 y6 y7 y8 y9 y10 y11))∧(∀ y0 y1 y2 y3 y4 y5 y6 y7 y8 y9 y10 y11,LeO (impl_ConnOK.j2 k y0 y1 y2 y3 y4 y5 y6 y7 y8 y9 y10 y11) (impl_ConnOK.j2 (k + 1) y0 y1 y2 y3 y4 y5 y6 y7 y8 y9 y10 y11))
 | 0 => ⟨fun _ _ _ _ _ _ _ _ _ _ _ _ r h => by simp [impl_ConnOK.j0] at h,fun _ _ _ _ _ _ _ _ _ _ _ _ r h => by simp [impl_ConnOK.j1] at h,fun _ _ _ _ _ _ _ _ _ _ _ _ r h => by simp [impl_ConnOK.j2] at h⟩
 | k + 1 => by
  obtain ⟨ih0,ih1,ih2⟩:=impl_ConnOK.mono_l k
  refine ⟨?_,?_,?_⟩
  ·intro y0 y1 y2 y3 y4 y5 y6 y7 y8 y9 y10 y11
   unfold impl_ConnOK.j0
   repeat' first
   | (with_reducible exact ih0 _ _ _ _ _ _ _ _ _ _ _ _)
   | (with_reducible exact ih1 _ _ _ _ _ _ _ _ _ _ _ _)
   | (with_reducible exact ih2 _ _ _ _ _ _ _ _ _ _ _ _)
   | (with_reducible exact LeO.refl _)
   | (with_reducible exact LeO.none _)
   | (with_reducible refine LeO.ite ?_ ?_)
   | (with_reducible refine LeO.bind ?_ (fun _ => ?_))
   | exact ih0 _ _ _ _ _ _ _ _ _ _ _ _
   | exact ih1 _ _ _ _ _ _ _ _ _ _ _ _
   | exact ih2 _ _ _ _ _ _ _ _ _ _ _ _
   | exact LeO.none _
   | refine LeO.ite ?_ ?_
   | refine LeO.bind ?_ (fun _ => ?_)
  ·intro y0 y1 y2 y3 y4 y5 y6 y7 y8 y9 y10 y11
   unfold impl_ConnOK.j1
   repeat' first
   | (with_reducible exact ih0 _ _ _ _ _ _ _ _ _ _ _ _)
   | (with_reducible exact ih1 _ _ _ _ _ _ _ _ _ _ _ _)
   | (with_reducible exact ih2 _ _ _ _ _ _ _ _ _ _ _ _)
   | (with_reducible exact LeO.refl _)
   | (with_reducible exact LeO.none _)
   | (with_reducible refine LeO.ite ?_ ?_)
   | (with_reducible refine LeO.bind ?_ (fun _ => ?_))
   | exact ih0 _ _ _ _ _ _ _ _ _ _ _ _
   | exact ih1 _ _ _ _ _ _ _ _ _ _ _ _
   | exact ih2 _ _ _ _ _ _ _ _ _ _ _ _
   | exact LeO.none _
   | refine LeO.ite ?_ ?_
   | refine LeO.bind ?_ (fun _ => ?_)
  ·intro y0 y1 y2 y3 y4 y5 y6 y7 y8 y9 y10 y11
   unfold impl_ConnOK.j2
   repeat' first
   | (with_reducible exact ih0 _ _ _ _ _ _ _ _ _ _ _ _)
   | (with_reducible exact ih1 _ _ _ _ _ _ _ _ _ _ _ _)
   | (with_reducible exact ih2 _ _ _ _ _ _ _ _ _ _ _ _)
   | (with_reducible exact LeO.refl _)
   | (with_reducible exact LeO.none _)
   | (with_reducible refine LeO.ite ?_ ?_)
   | (with_reducible refine LeO.bind ?_ (fun _ => ?_))
   | exact ih0 _ _ _ _ _ _ _ _ _ _ _ _
   | exact ih1 _ _ _ _ _ _ _ _ _ _ _ _
   | exact ih2 _ _ _ _ _ _ _ _ _ _ _ _
   | exact LeO.none _
   | refine LeO.ite ?_ ?_
   | refine LeO.bind ?_ (fun _ => ?_)
theorem impl_ConnOK.mono:∀ a0 a1 a2 a3 a4 a5 a6 a7 a8 a9 a10 k,LeO (impl_ConnOK.f k a0 a1 a2 a3 a4 a5 a6 a7 a8 a9 a10) (impl_ConnOK.f (k + 1) a0 a1 a2 a3 a4 a5 a6 a7 a8 a9 a10):=by
 intro a0 a1 a2 a3 a4 a5 a6 a7 a8 a9 a10 k
 obtain ⟨ih0,ih1,ih2⟩:=impl_ConnOK.mono_l k
 unfold impl_ConnOK.f
 repeat' first
   | (with_reducible exact ih0 _ _ _ _ _ _ _ _ _ _ _ _)
   | (with_reducible exact ih1 _ _ _ _ _ _ _ _ _ _ _ _)
   | (with_reducible exact ih2 _ _ _ _ _ _ _ _ _ _ _ _)
   | (with_reducible exact LeO.refl _)
   | (with_reducible exact LeO.none _)
   | (with_reducible refine LeO.ite ?_ ?_)
   | (with_reducible refine LeO.bind ?_ (fun _ => ?_))
   | exact ih0 _ _ _ _ _ _ _ _ _ _ _ _
   | exact ih1 _ _ _ _ _ _ _ _ _ _ _ _
   | exact ih2 _ _ _ _ _ _ _ _ _ _ _ _
   | exact LeO.none _
   | refine LeO.ite ?_ ?_
   | refine LeO.bind ?_ (fun _ => ?_)
set_option maxHeartbeats 8000000 in
set_option maxRecDepth 100000 in
theorem impl_ConnOK.calls (k:Nat) (a0_0:ByteArray) (a0_1 a0_2:Int) (a0_3 a0_4:Int) (a0_5 a0_6 a0_7:Int) (a0_8 a0_9:ByteArray) (a0_10 r:Bool) (w:World) (h:impl_ConnOK.f k a0_0 a0_1 a0_2 a0_3 a0_4 a0_5 a0_6 a0_7 a0_8 a0_9 a0_10 = some r) :
  Calls Try.prog 25 #[.agg #[.string a0_0,.int .i64 a0_1,.int .i64 a0_2,.int .i64 a0_3,.int .i64 a0_4,.int .i64 a0_5,.int .i64 a0_6,.int .i64 a0_7,.string a0_8,.string a0_9,.bool a0_10]] w fun e w' => e = .returned (.bool r)∧Below w.heap.size w w':=by
 have hu34:=Try.underlying34
 have HB:=aMk (Below.refl w.heap.size w)
 have H:=h
 unfold impl_ConnOK.f at H
 clear h
 have HC2:=aMk H
 clear H
 go_enter Try.func25,Try.ntmps25
 go_upto_region 1 with (first|((with_reducible refine gate_dst (N:=1) rfl ?_);(try (refine gate_guard (by rfl) ?_;dsimp only));refine bxE (N:=1) (cs:=#[.string a0_0,.int .i64 a0_1,.int .i64 a0_2,.int .i64 a0_3,.int .i64 a0_4,.int .i64 a0_5,.int .i64 a0_6,.int .i64 a0_7,.string a0_8,.string a0_9,.bool a0_10]) (t:=34) ?_;intro gb166 hg w3 hbox hb;have BK166:=aMk (hbox);have GW166:=aMk (bZ hg);have GE166:=aMk (bZ hg);replace HB:=aMk (bSt hb);clear hb hbox hg))
 repeat (go_quiet (first|((with_reducible refine gate_dst (N:=1) rfl ?_);(try (refine gate_guard (by rfl) ?_;dsimp only));refine bxE (N:=1) (cs:=#[.string a0_0,.int .i64 a0_1,.int .i64 a0_2,.int .i64 a0_3,.int .i64 a0_4,.int .i64 a0_5,.int .i64 a0_6,.int .i64 a0_7,.string a0_8,.string a0_9,.bool a0_10]) (t:=34) ?_;intro gb166 hg w3 hbox hb;have BK166:=aMk (hbox);have GW166:=aMk (bZ hg);have GE166:=aMk (bZ hg);replace HB:=aMk (bSt hb);clear hb hbox hg));go_upto_region 1 with (first|((with_reducible refine gate_dst (N:=1) rfl ?_);(try (refine gate_guard (by rfl) ?_;dsimp only));refine bxE (N:=1) (cs:=#[.string a0_0,.int .i64 a0_1,.int .i64 a0_2,.int .i64 a0_3,.int .i64 a0_4,.int .i64 a0_5,.int .i64 a0_6,.int .i64 a0_7,.string a0_8,.string a0_9,.bool a0_10]) (t:=34) ?_;intro gb166 hg w3 hbox hb;have BK166:=aMk (hbox);have GW166:=aMk (bZ hg);have GE166:=aMk (bZ hg);replace HB:=aMk (bSt hb);clear hb hbox hg)))
 (try simp only [Act.put,List.setIfInBounds_toArray,List.set_cons_zero,List.set_cons_succ])
 go_cut [30] (fun v30 wc => ∃ (kq:Nat) (x30_1:Bool),v30 = .bool x30_1∧Aside0 (impl_ConnOK.j0 kq x30_1 a0_0 a0_1 a0_2 a0_3 a0_4 a0_5 a0_6 a0_7 a0_8 a0_9 a0_10 = some r)∧Aside0 (kq≤k)∧Aside0 (wc.heap[gb166]? = some (.cells #[.string a0_0,.int .i64 a0_1,.int .i64 a0_2,.int .i64 a0_3,.int .i64 a0_4,.int .i64 a0_5,.int .i64 a0_6,.int .i64 a0_7,.string a0_8,.string a0_9,.bool a0_10] 34 (0,0)))∧Aside0 (Below w.heap.size w wc))
 case first =>
  have H:=HC2.out
  clear HC2
  replace H:=Option.bind_eq_some_iff.mp H
  obtain ⟨t167,A40,H⟩:=H
  try dsimp only at H
  have A4:=aMk A40
  clear A40
  by_cases c5:t167 = true
  ·subst c5
   have H1:=H
   rw [if_pos rfl] at H1
   clear H
   have H:=H1
   clear H1
   replace H:=Option.bind_eq_some_iff.mp H
   obtain ⟨t168,A60,H⟩:=H
   try dsimp only at H
   have A6:=aMk A60
   clear A60
   by_cases c7:t168 = true
   ·subst c7
    have H1:=H
    rw [if_pos rfl] at H1
    clear H
    have H:=H1
    clear H1
    replace H:=Option.bind_eq_some_iff.mp H
    obtain ⟨t169,A80,H⟩:=H
    try dsimp only at H
    have A8:=aMk A80
    clear A80
    by_cases c9:t169 = true
    ·subst c9
     have H1:=H
     rw [if_pos rfl] at H1
     clear H
     have H:=H1
     clear H1
     replace H:=Option.bind_eq_some_iff.mp H
     obtain ⟨t170,A100,H⟩:=H
     try dsimp only at H
     have A10:=aMk A100
     clear A100
     by_cases c11:t170 = true
     ·subst c11
      have H1:=H
      rw [if_pos rfl] at H1
      clear H
      have H:=H1
      clear H1
      replace H:=Option.bind_eq_some_iff.mp H
      obtain ⟨t171,A120,H⟩:=H
      try dsimp only at H
      have A12:=aMk A120
      clear A120
      have H':=aMk H
      clear H
      obtain ⟨Z13_0,Z13_1,Z13_2,Z13_3,Z13_4,Z13_5,Z13_6,Z13_7,Z13_8,Z13_9,Z13_10,Y13_0,Y13_1,Y13_2,Y13_3,Y13_4,Y13_5,Y13_6,Y13_7,Y13_8,Y13_9,Y13_10⟩:=bC11 BK166.out
      go_wp2_with (first|(go_at_call 72;(with_reducible refine (impl_macOK.calls a0_0 true _ A4.out).mono ?_);rintro e w' ⟨rfl,⟨nd,rfl⟩⟩;(try first|exact ⟨rfl,_,World.drewN_drewN _ _ _⟩|exact ⟨rfl,_,Eq.trans (World.drewN_drewN _ _ _) (congrArg (World.drewN _) (Nat.add_assoc _ _ _))⟩))|(go_at_call 61;(with_reducible refine (impl_isAddress.calls a0_1 true _ A6.out).mono ?_);rintro e w' ⟨rfl,⟨nd,rfl⟩⟩;(try first|exact ⟨rfl,_,World.drewN_drewN _ _ _⟩|exact ⟨rfl,_,Eq.trans (World.drewN_drewN _ _ _) (congrArg (World.drewN _) (Nat.add_assoc _ _ _))⟩))|(go_at_call 73;(with_reducible refine (impl_isPort.calls a0_2 true _ A8.out).mono ?_);rintro e w' ⟨rfl,⟨nd,rfl⟩⟩;(try first|exact ⟨rfl,_,World.drewN_drewN _ _ _⟩|exact ⟨rfl,_,Eq.trans (World.drewN_drewN _ _ _) (congrArg (World.drewN _) (Nat.add_assoc _ _ _))⟩))|(go_at_call 61;(with_reducible refine (impl_isAddress.calls a0_3 true _ A10.out).mono ?_);rintro e w' ⟨rfl,⟨nd,rfl⟩⟩;(try first|exact ⟨rfl,_,World.drewN_drewN _ _ _⟩|exact ⟨rfl,_,Eq.trans (World.drewN_drewN _ _ _) (congrArg (World.drewN _) (Nat.add_assoc _ _ _))⟩))|(go_at_call 62;(with_reducible refine (impl_within.calls a0_4 1 4 t171 _ A12.out).mono ?_);rintro e w' ⟨rfl,⟨nd,rfl⟩⟩;(try first|exact ⟨rfl,_,World.drewN_drewN _ _ _⟩|exact ⟨rfl,_,Eq.trans (World.drewN_drewN _ _ _) (congrArg (World.drewN _) (Nat.add_assoc _ _ _))⟩)))
      repeat (go_quiet (first|(go_at_call 72;(with_reducible refine (impl_macOK.calls a0_0 true _ A4.out).mono ?_);rintro e w' ⟨rfl,⟨nd,rfl⟩⟩;(try first|exact ⟨rfl,_,World.drewN_drewN _ _ _⟩|exact ⟨rfl,_,Eq.trans (World.drewN_drewN _ _ _) (congrArg (World.drewN _) (Nat.add_assoc _ _ _))⟩))|(go_at_call 61;(with_reducible refine (impl_isAddress.calls a0_1 true _ A6.out).mono ?_);rintro e w' ⟨rfl,⟨nd,rfl⟩⟩;(try first|exact ⟨rfl,_,World.drewN_drewN _ _ _⟩|exact ⟨rfl,_,Eq.trans (World.drewN_drewN _ _ _) (congrArg (World.drewN _) (Nat.add_assoc _ _ _))⟩))|(go_at_call 73;(with_reducible refine (impl_isPort.calls a0_2 true _ A8.out).mono ?_);rintro e w' ⟨rfl,⟨nd,rfl⟩⟩;(try first|exact ⟨rfl,_,World.drewN_drewN _ _ _⟩|exact ⟨rfl,_,Eq.trans (World.drewN_drewN _ _ _) (congrArg (World.drewN _) (Nat.add_assoc _ _ _))⟩))|(go_at_call 61;(with_reducible refine (impl_isAddress.calls a0_3 true _ A10.out).mono ?_);rintro e w' ⟨rfl,⟨nd,rfl⟩⟩;(try first|exact ⟨rfl,_,World.drewN_drewN _ _ _⟩|exact ⟨rfl,_,Eq.trans (World.drewN_drewN _ _ _) (congrArg (World.drewN _) (Nat.add_assoc _ _ _))⟩))|(go_at_call 62;(with_reducible refine (impl_within.calls a0_4 1 4 t171 _ A12.out).mono ?_);rintro e w' ⟨rfl,⟨nd,rfl⟩⟩;(try first|exact ⟨rfl,_,World.drewN_drewN _ _ _⟩|exact ⟨rfl,_,Eq.trans (World.drewN_drewN _ _ _) (congrArg (World.drewN _) (Nat.add_assoc _ _ _))⟩)));try go_wp2_with (first|(go_at_call 72;(with_reducible refine (impl_macOK.calls a0_0 true _ A4.out).mono ?_);rintro e w' ⟨rfl,⟨nd,rfl⟩⟩;(try first|exact ⟨rfl,_,World.drewN_drewN _ _ _⟩|exact ⟨rfl,_,Eq.trans (World.drewN_drewN _ _ _) (congrArg (World.drewN _) (Nat.add_assoc _ _ _))⟩))|(go_at_call 61;(with_reducible refine (impl_isAddress.calls a0_1 true _ A6.out).mono ?_);rintro e w' ⟨rfl,⟨nd,rfl⟩⟩;(try first|exact ⟨rfl,_,World.drewN_drewN _ _ _⟩|exact ⟨rfl,_,Eq.trans (World.drewN_drewN _ _ _) (congrArg (World.drewN _) (Nat.add_assoc _ _ _))⟩))|(go_at_call 73;(with_reducible refine (impl_isPort.calls a0_2 true _ A8.out).mono ?_);rintro e w' ⟨rfl,⟨nd,rfl⟩⟩;(try first|exact ⟨rfl,_,World.drewN_drewN _ _ _⟩|exact ⟨rfl,_,Eq.trans (World.drewN_drewN _ _ _) (congrArg (World.drewN _) (Nat.add_assoc _ _ _))⟩))|(go_at_call 61;(with_reducible refine (impl_isAddress.calls a0_3 true _ A10.out).mono ?_);rintro e w' ⟨rfl,⟨nd,rfl⟩⟩;(try first|exact ⟨rfl,_,World.drewN_drewN _ _ _⟩|exact ⟨rfl,_,Eq.trans (World.drewN_drewN _ _ _) (congrArg (World.drewN _) (Nat.add_assoc _ _ _))⟩))|(go_at_call 62;(with_reducible refine (impl_within.calls a0_4 1 4 t171 _ A12.out).mono ?_);rintro e w' ⟨rfl,⟨nd,rfl⟩⟩;(try first|exact ⟨rfl,_,World.drewN_drewN _ _ _⟩|exact ⟨rfl,_,Eq.trans (World.drewN_drewN _ _ _) (congrArg (World.drewN _) (Nat.add_assoc _ _ _))⟩))))
      go_meet
      case rel => exact ⟨_,(!t171),rfS,H',⟨by first | omega|exact Nat.le_refl _⟩,⟨by refine pB ?_;exact BK166.out⟩,⟨bW⟩⟩
     ·replace c11:=Bool.eq_false_iff.mpr c11
      subst c11
      have H1:=H
      rw [if_neg (show ¬ (false = true) by decide)] at H1
      clear H
      have H:=H1
      clear H1
      have H':=aMk H
      clear H
      obtain ⟨Z14_0,Z14_1,Z14_2,Z14_3,Z14_4,Z14_5,Z14_6,Z14_7,Z14_8,Z14_9,Z14_10,Y14_0,Y14_1,Y14_2,Y14_3,Y14_4,Y14_5,Y14_6,Y14_7,Y14_8,Y14_9,Y14_10⟩:=bC11 BK166.out
      go_wp2_with (first|(go_at_call 72;(with_reducible refine (impl_macOK.calls a0_0 true _ A4.out).mono ?_);rintro e w' ⟨rfl,⟨nd,rfl⟩⟩;(try first|exact ⟨rfl,_,World.drewN_drewN _ _ _⟩|exact ⟨rfl,_,Eq.trans (World.drewN_drewN _ _ _) (congrArg (World.drewN _) (Nat.add_assoc _ _ _))⟩))|(go_at_call 61;(with_reducible refine (impl_isAddress.calls a0_1 true _ A6.out).mono ?_);rintro e w' ⟨rfl,⟨nd,rfl⟩⟩;(try first|exact ⟨rfl,_,World.drewN_drewN _ _ _⟩|exact ⟨rfl,_,Eq.trans (World.drewN_drewN _ _ _) (congrArg (World.drewN _) (Nat.add_assoc _ _ _))⟩))|(go_at_call 73;(with_reducible refine (impl_isPort.calls a0_2 true _ A8.out).mono ?_);rintro e w' ⟨rfl,⟨nd,rfl⟩⟩;(try first|exact ⟨rfl,_,World.drewN_drewN _ _ _⟩|exact ⟨rfl,_,Eq.trans (World.drewN_drewN _ _ _) (congrArg (World.drewN _) (Nat.add_assoc _ _ _))⟩))|(go_at_call 61;(with_reducible refine (impl_isAddress.calls a0_3 false _ A10.out).mono ?_);rintro e w' ⟨rfl,⟨nd,rfl⟩⟩;(try first|exact ⟨rfl,_,World.drewN_drewN _ _ _⟩|exact ⟨rfl,_,Eq.trans (World.drewN_drewN _ _ _) (congrArg (World.drewN _) (Nat.add_assoc _ _ _))⟩)))
      repeat (go_quiet (first|(go_at_call 72;(with_reducible refine (impl_macOK.calls a0_0 true _ A4.out).mono ?_);rintro e w' ⟨rfl,⟨nd,rfl⟩⟩;(try first|exact ⟨rfl,_,World.drewN_drewN _ _ _⟩|exact ⟨rfl,_,Eq.trans (World.drewN_drewN _ _ _) (congrArg (World.drewN _) (Nat.add_assoc _ _ _))⟩))|(go_at_call 61;(with_reducible refine (impl_isAddress.calls a0_1 true _ A6.out).mono ?_);rintro e w' ⟨rfl,⟨nd,rfl⟩⟩;(try first|exact ⟨rfl,_,World.drewN_drewN _ _ _⟩|exact ⟨rfl,_,Eq.trans (World.drewN_drewN _ _ _) (congrArg (World.drewN _) (Nat.add_assoc _ _ _))⟩))|(go_at_call 73;(with_reducible refine (impl_isPort.calls a0_2 true _ A8.out).mono ?_);rintro e w' ⟨rfl,⟨nd,rfl⟩⟩;(try first|exact ⟨rfl,_,World.drewN_drewN _ _ _⟩|exact ⟨rfl,_,Eq.trans (World.drewN_drewN _ _ _) (congrArg (World.drewN _) (Nat.add_assoc _ _ _))⟩))|(go_at_call 61;(with_reducible refine (impl_isAddress.calls a0_3 false _ A10.out).mono ?_);rintro e w' ⟨rfl,⟨nd,rfl⟩⟩;(try first|exact ⟨rfl,_,World.drewN_drewN _ _ _⟩|exact ⟨rfl,_,Eq.trans (World.drewN_drewN _ _ _) (congrArg (World.drewN _) (Nat.add_assoc _ _ _))⟩)));try go_wp2_with (first|(go_at_call 72;(with_reducible refine (impl_macOK.calls a0_0 true _ A4.out).mono ?_);rintro e w' ⟨rfl,⟨nd,rfl⟩⟩;(try first|exact ⟨rfl,_,World.drewN_drewN _ _ _⟩|exact ⟨rfl,_,Eq.trans (World.drewN_drewN _ _ _) (congrArg (World.drewN _) (Nat.add_assoc _ _ _))⟩))|(go_at_call 61;(with_reducible refine (impl_isAddress.calls a0_1 true _ A6.out).mono ?_);rintro e w' ⟨rfl,⟨nd,rfl⟩⟩;(try first|exact ⟨rfl,_,World.drewN_drewN _ _ _⟩|exact ⟨rfl,_,Eq.trans (World.drewN_drewN _ _ _) (congrArg (World.drewN _) (Nat.add_assoc _ _ _))⟩))|(go_at_call 73;(with_reducible refine (impl_isPort.calls a0_2 true _ A8.out).mono ?_);rintro e w' ⟨rfl,⟨nd,rfl⟩⟩;(try first|exact ⟨rfl,_,World.drewN_drewN _ _ _⟩|exact ⟨rfl,_,Eq.trans (World.drewN_drewN _ _ _) (congrArg (World.drewN _) (Nat.add_assoc _ _ _))⟩))|(go_at_call 61;(with_reducible refine (impl_isAddress.calls a0_3 false _ A10.out).mono ?_);rintro e w' ⟨rfl,⟨nd,rfl⟩⟩;(try first|exact ⟨rfl,_,World.drewN_drewN _ _ _⟩|exact ⟨rfl,_,Eq.trans (World.drewN_drewN _ _ _) (congrArg (World.drewN _) (Nat.add_assoc _ _ _))⟩))))
      go_meet
      case rel => exact ⟨_,(true),rfS,H',⟨by first | omega|exact Nat.le_refl _⟩,⟨by refine pB ?_;exact BK166.out⟩,⟨bW⟩⟩
    ·replace c9:=Bool.eq_false_iff.mpr c9
     subst c9
     have H1:=H
     rw [if_neg (show ¬ (false = true) by decide)] at H1
     clear H
     have H:=H1
     clear H1
     have H':=aMk H
     clear H
     obtain ⟨Z15_0,Z15_1,Z15_2,Z15_3,Z15_4,Z15_5,Z15_6,Z15_7,Z15_8,Z15_9,Z15_10,Y15_0,Y15_1,Y15_2,Y15_3,Y15_4,Y15_5,Y15_6,Y15_7,Y15_8,Y15_9,Y15_10⟩:=bC11 BK166.out
     go_wp2_with (first|(go_at_call 72;(with_reducible refine (impl_macOK.calls a0_0 true _ A4.out).mono ?_);rintro e w' ⟨rfl,⟨nd,rfl⟩⟩;(try first|exact ⟨rfl,_,World.drewN_drewN _ _ _⟩|exact ⟨rfl,_,Eq.trans (World.drewN_drewN _ _ _) (congrArg (World.drewN _) (Nat.add_assoc _ _ _))⟩))|(go_at_call 61;(with_reducible refine (impl_isAddress.calls a0_1 true _ A6.out).mono ?_);rintro e w' ⟨rfl,⟨nd,rfl⟩⟩;(try first|exact ⟨rfl,_,World.drewN_drewN _ _ _⟩|exact ⟨rfl,_,Eq.trans (World.drewN_drewN _ _ _) (congrArg (World.drewN _) (Nat.add_assoc _ _ _))⟩))|(go_at_call 73;(with_reducible refine (impl_isPort.calls a0_2 false _ A8.out).mono ?_);rintro e w' ⟨rfl,⟨nd,rfl⟩⟩;(try first|exact ⟨rfl,_,World.drewN_drewN _ _ _⟩|exact ⟨rfl,_,Eq.trans (World.drewN_drewN _ _ _) (congrArg (World.drewN _) (Nat.add_assoc _ _ _))⟩)))
     repeat (go_quiet (first|(go_at_call 72;(with_reducible refine (impl_macOK.calls a0_0 true _ A4.out).mono ?_);rintro e w' ⟨rfl,⟨nd,rfl⟩⟩;(try first|exact ⟨rfl,_,World.drewN_drewN _ _ _⟩|exact ⟨rfl,_,Eq.trans (World.drewN_drewN _ _ _) (congrArg (World.drewN _) (Nat.add_assoc _ _ _))⟩))|(go_at_call 61;(with_reducible refine (impl_isAddress.calls a0_1 true _ A6.out).mono ?_);rintro e w' ⟨rfl,⟨nd,rfl⟩⟩;(try first|exact ⟨rfl,_,World.drewN_drewN _ _ _⟩|exact ⟨rfl,_,Eq.trans (World.drewN_drewN _ _ _) (congrArg (World.drewN _) (Nat.add_assoc _ _ _))⟩))|(go_at_call 73;(with_reducible refine (impl_isPort.calls a0_2 false _ A8.out).mono ?_);rintro e w' ⟨rfl,⟨nd,rfl⟩⟩;(try first|exact ⟨rfl,_,World.drewN_drewN _ _ _⟩|exact ⟨rfl,_,Eq.trans (World.drewN_drewN _ _ _) (congrArg (World.drewN _) (Nat.add_assoc _ _ _))⟩)));try go_wp2_with (first|(go_at_call 72;(with_reducible refine (impl_macOK.calls a0_0 true _ A4.out).mono ?_);rintro e w' ⟨rfl,⟨nd,rfl⟩⟩;(try first|exact ⟨rfl,_,World.drewN_drewN _ _ _⟩|exact ⟨rfl,_,Eq.trans (World.drewN_drewN _ _ _) (congrArg (World.drewN _) (Nat.add_assoc _ _ _))⟩))|(go_at_call 61;(with_reducible refine (impl_isAddress.calls a0_1 true _ A6.out).mono ?_);rintro e w' ⟨rfl,⟨nd,rfl⟩⟩;(try first|exact ⟨rfl,_,World.drewN_drewN _ _ _⟩|exact ⟨rfl,_,Eq.trans (World.drewN_drewN _ _ _) (congrArg (World.drewN _) (Nat.add_assoc _ _ _))⟩))|(go_at_call 73;(with_reducible refine (impl_isPort.calls a0_2 false _ A8.out).mono ?_);rintro e w' ⟨rfl,⟨nd,rfl⟩⟩;(try first|exact ⟨rfl,_,World.drewN_drewN _ _ _⟩|exact ⟨rfl,_,Eq.trans (World.drewN_drewN _ _ _) (congrArg (World.drewN _) (Nat.add_assoc _ _ _))⟩))))
     go_meet
     case rel => exact ⟨_,(true),rfS,H',⟨by first | omega|exact Nat.le_refl _⟩,⟨by refine pB ?_;exact BK166.out⟩,⟨bW⟩⟩
   ·replace c7:=Bool.eq_false_iff.mpr c7
    subst c7
    have H1:=H
    rw [if_neg (show ¬ (false = true) by decide)] at H1
    clear H
    have H:=H1
    clear H1
    have H':=aMk H
    clear H
    obtain ⟨Z16_0,Z16_1,Z16_2,Z16_3,Z16_4,Z16_5,Z16_6,Z16_7,Z16_8,Z16_9,Z16_10,Y16_0,Y16_1,Y16_2,Y16_3,Y16_4,Y16_5,Y16_6,Y16_7,Y16_8,Y16_9,Y16_10⟩:=bC11 BK166.out
    go_wp2_with (first|(go_at_call 72;(with_reducible refine (impl_macOK.calls a0_0 true _ A4.out).mono ?_);rintro e w' ⟨rfl,⟨nd,rfl⟩⟩;(try first|exact ⟨rfl,_,World.drewN_drewN _ _ _⟩|exact ⟨rfl,_,Eq.trans (World.drewN_drewN _ _ _) (congrArg (World.drewN _) (Nat.add_assoc _ _ _))⟩))|(go_at_call 61;(with_reducible refine (impl_isAddress.calls a0_1 false _ A6.out).mono ?_);rintro e w' ⟨rfl,⟨nd,rfl⟩⟩;(try first|exact ⟨rfl,_,World.drewN_drewN _ _ _⟩|exact ⟨rfl,_,Eq.trans (World.drewN_drewN _ _ _) (congrArg (World.drewN _) (Nat.add_assoc _ _ _))⟩)))
    repeat (go_quiet (first|(go_at_call 72;(with_reducible refine (impl_macOK.calls a0_0 true _ A4.out).mono ?_);rintro e w' ⟨rfl,⟨nd,rfl⟩⟩;(try first|exact ⟨rfl,_,World.drewN_drewN _ _ _⟩|exact ⟨rfl,_,Eq.trans (World.drewN_drewN _ _ _) (congrArg (World.drewN _) (Nat.add_assoc _ _ _))⟩))|(go_at_call 61;(with_reducible refine (impl_isAddress.calls a0_1 false _ A6.out).mono ?_);rintro e w' ⟨rfl,⟨nd,rfl⟩⟩;(try first|exact ⟨rfl,_,World.drewN_drewN _ _ _⟩|exact ⟨rfl,_,Eq.trans (World.drewN_drewN _ _ _) (congrArg (World.drewN _) (Nat.add_assoc _ _ _))⟩)));try go_wp2_with (first|(go_at_call 72;(with_reducible refine (impl_macOK.calls a0_0 true _ A4.out).mono ?_);rintro e w' ⟨rfl,⟨nd,rfl⟩⟩;(try first|exact ⟨rfl,_,World.drewN_drewN _ _ _⟩|exact ⟨rfl,_,Eq.trans (World.drewN_drewN _ _ _) (congrArg (World.drewN _) (Nat.add_assoc _ _ _))⟩))|(go_at_call 61;(with_reducible refine (impl_isAddress.calls a0_1 false _ A6.out).mono ?_);rintro e w' ⟨rfl,⟨nd,rfl⟩⟩;(try first|exact ⟨rfl,_,World.drewN_drewN _ _ _⟩|exact ⟨rfl,_,Eq.trans (World.drewN_drewN _ _ _) (congrArg (World.drewN _) (Nat.add_assoc _ _ _))⟩))))
    go_meet
    case rel => exact ⟨_,(true),rfS,H',⟨by first | omega|exact Nat.le_refl _⟩,⟨by refine pB ?_;exact BK166.out⟩,⟨bW⟩⟩
  ·replace c5:=Bool.eq_false_iff.mpr c5
   subst c5
   have H1:=H
   rw [if_neg (show ¬ (false = true) by decide)] at H1
   clear H
   have H:=H1
   clear H1
   have H':=aMk H
   clear H
   obtain ⟨Z17_0,Z17_1,Z17_2,Z17_3,Z17_4,Z17_5,Z17_6,Z17_7,Z17_8,Z17_9,Z17_10,Y17_0,Y17_1,Y17_2,Y17_3,Y17_4,Y17_5,Y17_6,Y17_7,Y17_8,Y17_9,Y17_10⟩:=bC11 BK166.out
   go_wp2_with (first|(go_at_call 72;(with_reducible refine (impl_macOK.calls a0_0 false _ A4.out).mono ?_);rintro e w' ⟨rfl,⟨nd,rfl⟩⟩;(try first|exact ⟨rfl,_,World.drewN_drewN _ _ _⟩|exact ⟨rfl,_,Eq.trans (World.drewN_drewN _ _ _) (congrArg (World.drewN _) (Nat.add_assoc _ _ _))⟩)))
   repeat (go_quiet (first|(go_at_call 72;(with_reducible refine (impl_macOK.calls a0_0 false _ A4.out).mono ?_);rintro e w' ⟨rfl,⟨nd,rfl⟩⟩;(try first|exact ⟨rfl,_,World.drewN_drewN _ _ _⟩|exact ⟨rfl,_,Eq.trans (World.drewN_drewN _ _ _) (congrArg (World.drewN _) (Nat.add_assoc _ _ _))⟩)));try go_wp2_with (first|(go_at_call 72;(with_reducible refine (impl_macOK.calls a0_0 false _ A4.out).mono ?_);rintro e w' ⟨rfl,⟨nd,rfl⟩⟩;(try first|exact ⟨rfl,_,World.drewN_drewN _ _ _⟩|exact ⟨rfl,_,Eq.trans (World.drewN_drewN _ _ _) (congrArg (World.drewN _) (Nat.add_assoc _ _ _))⟩))))
   go_meet
   case rel => exact ⟨_,(true),rfS,H',⟨by first | omega|exact Nat.le_refl _⟩,⟨by refine pB ?_;exact BK166.out⟩,⟨bW⟩⟩
 case rest =>
  clear HC2
  try clear Z13_0 Z13_1 Z13_10 Z13_2 Z13_3 Z13_4 Z13_5 Z13_6 Z13_7 Z13_8 Z13_9
  try clear Z14_0 Z14_1 Z14_10 Z14_2 Z14_3 Z14_4 Z14_5 Z14_6 Z14_7 Z14_8 Z14_9
  try clear Z15_0 Z15_1 Z15_10 Z15_2 Z15_3 Z15_4 Z15_5 Z15_6 Z15_7 Z15_8 Z15_9
  try clear Z16_0 Z16_1 Z16_10 Z16_2 Z16_3 Z16_4 Z16_5 Z16_6 Z16_7 Z16_8 Z16_9
  try clear Z17_0 Z17_1 Z17_10 Z17_2 Z17_3 Z17_4 Z17_5 Z17_6 Z17_7 Z17_8 Z17_9
  try clear Y13_0 Y13_1 Y13_10 Y13_2 Y13_3 Y13_4 Y13_5 Y13_6 Y13_7 Y13_8 Y13_9
  try clear Y14_0 Y14_1 Y14_10 Y14_2 Y14_3 Y14_4 Y14_5 Y14_6 Y14_7 Y14_8 Y14_9
  try clear Y15_0 Y15_1 Y15_10 Y15_2 Y15_3 Y15_4 Y15_5 Y15_6 Y15_7 Y15_8 Y15_9
  try clear Y16_0 Y16_1 Y16_10 Y16_2 Y16_3 Y16_4 Y16_5 Y16_6 Y16_7 Y16_8 Y16_9
  try clear Y17_0 Y17_1 Y17_10 Y17_2 Y17_3 Y17_4 Y17_5 Y17_6 Y17_7 Y17_8 Y17_9
  obtain ⟨kq,x30_1,rfl,HA,HJ1,BK166,HB⟩:=hcut
  cases kq with
  | zero => exact absurd HA.out (by simp [impl_ConnOK.j0])
  | succ kj1 =>
   have H:=HA.out
   clear HA
   simp only [impl_ConnOK.j0] at H
   by_cases c18:x30_1 = true
   ·subst c18
    have H1:=H
    rw [if_pos rfl] at H1
    clear H
    have H:=H1
    clear H1
    obtain rfl:=Option.some.inj H
    go_wp2
    repeat (go_quiet (fail);try go_wp2)
    go_ret
    exact ⟨eRf,bW⟩
   ·replace c18:=Bool.eq_false_iff.mpr c18
    subst c18
    have H1:=H
    rw [if_neg (show ¬ (false = true) by decide)] at H1
    clear H
    have H:=H1
    clear H1
    have HC19:=aMk H
    clear H
    go_upto_region 3 with (fail)
    repeat (go_quiet (fail);go_upto_region 3 with (fail))
    go_cut [58] (fun v58 wc => ∃ (kq:Nat) (x58_18:Bool),v58 = .bool x58_18∧Aside0 (impl_ConnOK.j1 kq x58_18 a0_0 a0_1 a0_2 a0_3 a0_4 a0_5 a0_6 a0_7 a0_8 a0_9 a0_10 = some r)∧Aside0 (kq≤kj1)∧Aside0 (wc.heap[gb166]? = some (.cells #[.string a0_0,.int .i64 a0_1,.int .i64 a0_2,.int .i64 a0_3,.int .i64 a0_4,.int .i64 a0_5,.int .i64 a0_6,.int .i64 a0_7,.string a0_8,.string a0_9,.bool a0_10] 34 (0,0)))∧Aside0 (Below w.heap.size w wc))
    case first =>
     have H:=HC19.out
     clear HC19
     replace H:=Option.bind_eq_some_iff.mp H
     obtain ⟨t172,A200,H⟩:=H
     try dsimp only at H
     have A20:=aMk A200
     clear A200
     by_cases c21:t172 = true
     ·subst c21
      have H1:=H
      rw [if_pos rfl] at H1
      clear H
      have H:=H1
      clear H1
      replace H:=Option.bind_eq_some_iff.mp H
      obtain ⟨t173,A220,H⟩:=H
      try dsimp only at H
      have A22:=aMk A220
      clear A220
      by_cases c23:t173 = true
      ·subst c23
       have H1:=H
       rw [if_pos rfl] at H1
       clear H
       have H:=H1
       clear H1
       replace H:=Option.bind_eq_some_iff.mp H
       obtain ⟨t174,A240,H⟩:=H
       try dsimp only at H
       have A24:=aMk A240
       clear A240
       by_cases c25:t174 = true
       ·subst c25
        have H1:=H
        rw [if_pos rfl] at H1
        clear H
        have H:=H1
        clear H1
        by_cases c26:(a0_8.size:Int) > 300
        ·rw [if_pos c26] at H
         have c26b0:decide (300 < (a0_8.size:Int)) = true:=decide_eq_true c26
         have c26b1:decide (300 < a0_8.size) = true:=decide_eq_true (by omega)
         clear c26
         (first|rw [c26b0]|(simp only [i64_w,i32_w];rw [c26b0]) | skip)
         have H':=aMk H
         clear H
         obtain ⟨Z27_0,Z27_1,Z27_2,Z27_3,Z27_4,Z27_5,Z27_6,Z27_7,Z27_8,Z27_9,Z27_10,Y27_0,Y27_1,Y27_2,Y27_3,Y27_4,Y27_5,Y27_6,Y27_7,Y27_8,Y27_9,Y27_10⟩:=bC11 BK166.out
         go_wp2_with (first|(go_at_call 61;(with_reducible refine (impl_isAddress.calls a0_5 true _ A20.out).mono ?_);rintro e w' ⟨rfl,⟨nd,rfl⟩⟩;(try first|exact ⟨rfl,_,World.drewN_drewN _ _ _⟩|exact ⟨rfl,_,Eq.trans (World.drewN_drewN _ _ _) (congrArg (World.drewN _) (Nat.add_assoc _ _ _))⟩))|(go_at_call 61;(with_reducible refine (impl_isAddress.calls a0_6 true _ A22.out).mono ?_);rintro e w' ⟨rfl,⟨nd,rfl⟩⟩;(try first|exact ⟨rfl,_,World.drewN_drewN _ _ _⟩|exact ⟨rfl,_,Eq.trans (World.drewN_drewN _ _ _) (congrArg (World.drewN _) (Nat.add_assoc _ _ _))⟩))|(go_at_call 61;(with_reducible refine (impl_isAddress.calls a0_7 true _ A24.out).mono ?_);rintro e w' ⟨rfl,⟨nd,rfl⟩⟩;(try first|exact ⟨rfl,_,World.drewN_drewN _ _ _⟩|exact ⟨rfl,_,Eq.trans (World.drewN_drewN _ _ _) (congrArg (World.drewN _) (Nat.add_assoc _ _ _))⟩)))
         repeat (go_quiet (first|(go_at_call 61;(with_reducible refine (impl_isAddress.calls a0_5 true _ A20.out).mono ?_);rintro e w' ⟨rfl,⟨nd,rfl⟩⟩;(try first|exact ⟨rfl,_,World.drewN_drewN _ _ _⟩|exact ⟨rfl,_,Eq.trans (World.drewN_drewN _ _ _) (congrArg (World.drewN _) (Nat.add_assoc _ _ _))⟩))|(go_at_call 61;(with_reducible refine (impl_isAddress.calls a0_6 true _ A22.out).mono ?_);rintro e w' ⟨rfl,⟨nd,rfl⟩⟩;(try first|exact ⟨rfl,_,World.drewN_drewN _ _ _⟩|exact ⟨rfl,_,Eq.trans (World.drewN_drewN _ _ _) (congrArg (World.drewN _) (Nat.add_assoc _ _ _))⟩))|(go_at_call 61;(with_reducible refine (impl_isAddress.calls a0_7 true _ A24.out).mono ?_);rintro e w' ⟨rfl,⟨nd,rfl⟩⟩;(try first|exact ⟨rfl,_,World.drewN_drewN _ _ _⟩|exact ⟨rfl,_,Eq.trans (World.drewN_drewN _ _ _) (congrArg (World.drewN _) (Nat.add_assoc _ _ _))⟩)));try go_wp2_with (first|(go_at_call 61;(with_reducible refine (impl_isAddress.calls a0_5 true _ A20.out).mono ?_);rintro e w' ⟨rfl,⟨nd,rfl⟩⟩;(try first|exact ⟨rfl,_,World.drewN_drewN _ _ _⟩|exact ⟨rfl,_,Eq.trans (World.drewN_drewN _ _ _) (congrArg (World.drewN _) (Nat.add_assoc _ _ _))⟩))|(go_at_call 61;(with_reducible refine (impl_isAddress.calls a0_6 true _ A22.out).mono ?_);rintro e w' ⟨rfl,⟨nd,rfl⟩⟩;(try first|exact ⟨rfl,_,World.drewN_drewN _ _ _⟩|exact ⟨rfl,_,Eq.trans (World.drewN_drewN _ _ _) (congrArg (World.drewN _) (Nat.add_assoc _ _ _))⟩))|(go_at_call 61;(with_reducible refine (impl_isAddress.calls a0_7 true _ A24.out).mono ?_);rintro e w' ⟨rfl,⟨nd,rfl⟩⟩;(try first|exact ⟨rfl,_,World.drewN_drewN _ _ _⟩|exact ⟨rfl,_,Eq.trans (World.drewN_drewN _ _ _) (congrArg (World.drewN _) (Nat.add_assoc _ _ _))⟩))))
         go_meet
         case rel => exact ⟨_,(true),rfS,H',⟨by have:=HJ1.out;first | omega|exact Nat.le_refl _⟩,⟨by refine pB ?_;exact BK166.out⟩,⟨bW⟩⟩
        ·rw [if_neg c26] at H
         have c26b0:decide (300 < (a0_8.size:Int)) = false:=decide_eq_false c26
         have c26b1:decide (300 < a0_8.size) = false:=decide_eq_false (by omega)
         clear c26
         (first|rw [c26b0]|(simp only [i64_w,i32_w];rw [c26b0]) | skip)
         have H':=aMk H
         clear H
         obtain ⟨Z28_0,Z28_1,Z28_2,Z28_3,Z28_4,Z28_5,Z28_6,Z28_7,Z28_8,Z28_9,Z28_10,Y28_0,Y28_1,Y28_2,Y28_3,Y28_4,Y28_5,Y28_6,Y28_7,Y28_8,Y28_9,Y28_10⟩:=bC11 BK166.out
         go_wp2_with (first|(go_at_call 61;(with_reducible refine (impl_isAddress.calls a0_5 true _ A20.out).mono ?_);rintro e w' ⟨rfl,⟨nd,rfl⟩⟩;(try first|exact ⟨rfl,_,World.drewN_drewN _ _ _⟩|exact ⟨rfl,_,Eq.trans (World.drewN_drewN _ _ _) (congrArg (World.drewN _) (Nat.add_assoc _ _ _))⟩))|(go_at_call 61;(with_reducible refine (impl_isAddress.calls a0_6 true _ A22.out).mono ?_);rintro e w' ⟨rfl,⟨nd,rfl⟩⟩;(try first|exact ⟨rfl,_,World.drewN_drewN _ _ _⟩|exact ⟨rfl,_,Eq.trans (World.drewN_drewN _ _ _) (congrArg (World.drewN _) (Nat.add_assoc _ _ _))⟩))|(go_at_call 61;(with_reducible refine (impl_isAddress.calls a0_7 true _ A24.out).mono ?_);rintro e w' ⟨rfl,⟨nd,rfl⟩⟩;(try first|exact ⟨rfl,_,World.drewN_drewN _ _ _⟩|exact ⟨rfl,_,Eq.trans (World.drewN_drewN _ _ _) (congrArg (World.drewN _) (Nat.add_assoc _ _ _))⟩)))
         repeat (go_quiet (first|(go_at_call 61;(with_reducible refine (impl_isAddress.calls a0_5 true _ A20.out).mono ?_);rintro e w' ⟨rfl,⟨nd,rfl⟩⟩;(try first|exact ⟨rfl,_,World.drewN_drewN _ _ _⟩|exact ⟨rfl,_,Eq.trans (World.drewN_drewN _ _ _) (congrArg (World.drewN _) (Nat.add_assoc _ _ _))⟩))|(go_at_call 61;(with_reducible refine (impl_isAddress.calls a0_6 true _ A22.out).mono ?_);rintro e w' ⟨rfl,⟨nd,rfl⟩⟩;(try first|exact ⟨rfl,_,World.drewN_drewN _ _ _⟩|exact ⟨rfl,_,Eq.trans (World.drewN_drewN _ _ _) (congrArg (World.drewN _) (Nat.add_assoc _ _ _))⟩))|(go_at_call 61;(with_reducible refine (impl_isAddress.calls a0_7 true _ A24.out).mono ?_);rintro e w' ⟨rfl,⟨nd,rfl⟩⟩;(try first|exact ⟨rfl,_,World.drewN_drewN _ _ _⟩|exact ⟨rfl,_,Eq.trans (World.drewN_drewN _ _ _) (congrArg (World.drewN _) (Nat.add_assoc _ _ _))⟩)));try go_wp2_with (first|(go_at_call 61;(with_reducible refine (impl_isAddress.calls a0_5 true _ A20.out).mono ?_);rintro e w' ⟨rfl,⟨nd,rfl⟩⟩;(try first|exact ⟨rfl,_,World.drewN_drewN _ _ _⟩|exact ⟨rfl,_,Eq.trans (World.drewN_drewN _ _ _) (congrArg (World.drewN _) (Nat.add_assoc _ _ _))⟩))|(go_at_call 61;(with_reducible refine (impl_isAddress.calls a0_6 true _ A22.out).mono ?_);rintro e w' ⟨rfl,⟨nd,rfl⟩⟩;(try first|exact ⟨rfl,_,World.drewN_drewN _ _ _⟩|exact ⟨rfl,_,Eq.trans (World.drewN_drewN _ _ _) (congrArg (World.drewN _) (Nat.add_assoc _ _ _))⟩))|(go_at_call 61;(with_reducible refine (impl_isAddress.calls a0_7 true _ A24.out).mono ?_);rintro e w' ⟨rfl,⟨nd,rfl⟩⟩;(try first|exact ⟨rfl,_,World.drewN_drewN _ _ _⟩|exact ⟨rfl,_,Eq.trans (World.drewN_drewN _ _ _) (congrArg (World.drewN _) (Nat.add_assoc _ _ _))⟩))))
         go_meet
         case rel => exact ⟨_,(decide ((a0_9.size:Int) > 300)),rfS,H',⟨by have:=HJ1.out;first | omega|exact Nat.le_refl _⟩,⟨by refine pB ?_;exact BK166.out⟩,⟨bW⟩⟩
       ·replace c25:=Bool.eq_false_iff.mpr c25
        subst c25
        have H1:=H
        rw [if_neg (show ¬ (false = true) by decide)] at H1
        clear H
        have H:=H1
        clear H1
        have H':=aMk H
        clear H
        obtain ⟨Z29_0,Z29_1,Z29_2,Z29_3,Z29_4,Z29_5,Z29_6,Z29_7,Z29_8,Z29_9,Z29_10,Y29_0,Y29_1,Y29_2,Y29_3,Y29_4,Y29_5,Y29_6,Y29_7,Y29_8,Y29_9,Y29_10⟩:=bC11 BK166.out
        go_wp2_with (first|(go_at_call 61;(with_reducible refine (impl_isAddress.calls a0_5 true _ A20.out).mono ?_);rintro e w' ⟨rfl,⟨nd,rfl⟩⟩;(try first|exact ⟨rfl,_,World.drewN_drewN _ _ _⟩|exact ⟨rfl,_,Eq.trans (World.drewN_drewN _ _ _) (congrArg (World.drewN _) (Nat.add_assoc _ _ _))⟩))|(go_at_call 61;(with_reducible refine (impl_isAddress.calls a0_6 true _ A22.out).mono ?_);rintro e w' ⟨rfl,⟨nd,rfl⟩⟩;(try first|exact ⟨rfl,_,World.drewN_drewN _ _ _⟩|exact ⟨rfl,_,Eq.trans (World.drewN_drewN _ _ _) (congrArg (World.drewN _) (Nat.add_assoc _ _ _))⟩))|(go_at_call 61;(with_reducible refine (impl_isAddress.calls a0_7 false _ A24.out).mono ?_);rintro e w' ⟨rfl,⟨nd,rfl⟩⟩;(try first|exact ⟨rfl,_,World.drewN_drewN _ _ _⟩|exact ⟨rfl,_,Eq.trans (World.drewN_drewN _ _ _) (congrArg (World.drewN _) (Nat.add_assoc _ _ _))⟩)))
        repeat (go_quiet (first|(go_at_call 61;(with_reducible refine (impl_isAddress.calls a0_5 true _ A20.out).mono ?_);rintro e w' ⟨rfl,⟨nd,rfl⟩⟩;(try first|exact ⟨rfl,_,World.drewN_drewN _ _ _⟩|exact ⟨rfl,_,Eq.trans (World.drewN_drewN _ _ _) (congrArg (World.drewN _) (Nat.add_assoc _ _ _))⟩))|(go_at_call 61;(with_reducible refine (impl_isAddress.calls a0_6 true _ A22.out).mono ?_);rintro e w' ⟨rfl,⟨nd,rfl⟩⟩;(try first|exact ⟨rfl,_,World.drewN_drewN _ _ _⟩|exact ⟨rfl,_,Eq.trans (World.drewN_drewN _ _ _) (congrArg (World.drewN _) (Nat.add_assoc _ _ _))⟩))|(go_at_call 61;(with_reducible refine (impl_isAddress.calls a0_7 false _ A24.out).mono ?_);rintro e w' ⟨rfl,⟨nd,rfl⟩⟩;(try first|exact ⟨rfl,_,World.drewN_drewN _ _ _⟩|exact ⟨rfl,_,Eq.trans (World.drewN_drewN _ _ _) (congrArg (World.drewN _) (Nat.add_assoc _ _ _))⟩)));try go_wp2_with (first|(go_at_call 61;(with_reducible refine (impl_isAddress.calls a0_5 true _ A20.out).mono ?_);rintro e w' ⟨rfl,⟨nd,rfl⟩⟩;(try first|exact ⟨rfl,_,World.drewN_drewN _ _ _⟩|exact ⟨rfl,_,Eq.trans (World.drewN_drewN _ _ _) (congrArg (World.drewN _) (Nat.add_assoc _ _ _))⟩))|(go_at_call 61;(with_reducible refine (impl_isAddress.calls a0_6 true _ A22.out).mono ?_);rintro e w' ⟨rfl,⟨nd,rfl⟩⟩;(try first|exact ⟨rfl,_,World.drewN_drewN _ _ _⟩|exact ⟨rfl,_,Eq.trans (World.drewN_drewN _ _ _) (congrArg (World.drewN _) (Nat.add_assoc _ _ _))⟩))|(go_at_call 61;(with_reducible refine (impl_isAddress.calls a0_7 false _ A24.out).mono ?_);rintro e w' ⟨rfl,⟨nd,rfl⟩⟩;(try first|exact ⟨rfl,_,World.drewN_drewN _ _ _⟩|exact ⟨rfl,_,Eq.trans (World.drewN_drewN _ _ _) (congrArg (World.drewN _) (Nat.add_assoc _ _ _))⟩))))
        go_meet
        case rel => exact ⟨_,(true),rfS,H',⟨by have:=HJ1.out;first | omega|exact Nat.le_refl _⟩,⟨by refine pB ?_;exact BK166.out⟩,⟨bW⟩⟩
      ·replace c23:=Bool.eq_false_iff.mpr c23
       subst c23
       have H1:=H
       rw [if_neg (show ¬ (false = true) by decide)] at H1
       clear H
       have H:=H1
       clear H1
       have H':=aMk H
       clear H
       obtain ⟨Z30_0,Z30_1,Z30_2,Z30_3,Z30_4,Z30_5,Z30_6,Z30_7,Z30_8,Z30_9,Z30_10,Y30_0,Y30_1,Y30_2,Y30_3,Y30_4,Y30_5,Y30_6,Y30_7,Y30_8,Y30_9,Y30_10⟩:=bC11 BK166.out
       go_wp2_with (first|(go_at_call 61;(with_reducible refine (impl_isAddress.calls a0_5 true _ A20.out).mono ?_);rintro e w' ⟨rfl,⟨nd,rfl⟩⟩;(try first|exact ⟨rfl,_,World.drewN_drewN _ _ _⟩|exact ⟨rfl,_,Eq.trans (World.drewN_drewN _ _ _) (congrArg (World.drewN _) (Nat.add_assoc _ _ _))⟩))|(go_at_call 61;(with_reducible refine (impl_isAddress.calls a0_6 false _ A22.out).mono ?_);rintro e w' ⟨rfl,⟨nd,rfl⟩⟩;(try first|exact ⟨rfl,_,World.drewN_drewN _ _ _⟩|exact ⟨rfl,_,Eq.trans (World.drewN_drewN _ _ _) (congrArg (World.drewN _) (Nat.add_assoc _ _ _))⟩)))
       repeat (go_quiet (first|(go_at_call 61;(with_reducible refine (impl_isAddress.calls a0_5 true _ A20.out).mono ?_);rintro e w' ⟨rfl,⟨nd,rfl⟩⟩;(try first|exact ⟨rfl,_,World.drewN_drewN _ _ _⟩|exact ⟨rfl,_,Eq.trans (World.drewN_drewN _ _ _) (congrArg (World.drewN _) (Nat.add_assoc _ _ _))⟩))|(go_at_call 61;(with_reducible refine (impl_isAddress.calls a0_6 false _ A22.out).mono ?_);rintro e w' ⟨rfl,⟨nd,rfl⟩⟩;(try first|exact ⟨rfl,_,World.drewN_drewN _ _ _⟩|exact ⟨rfl,_,Eq.trans (World.drewN_drewN _ _ _) (congrArg (World.drewN _) (Nat.add_assoc _ _ _))⟩)));try go_wp2_with (first|(go_at_call 61;(with_reducible refine (impl_isAddress.calls a0_5 true _ A20.out).mono ?_);rintro e w' ⟨rfl,⟨nd,rfl⟩⟩;(try first|exact ⟨rfl,_,World.drewN_drewN _ _ _⟩|exact ⟨rfl,_,Eq.trans (World.drewN_drewN _ _ _) (congrArg (World.drewN _) (Nat.add_assoc _ _ _))⟩))|(go_at_call 61;(with_reducible refine (impl_isAddress.calls a0_6 false _ A22.out).mono ?_);rintro e w' ⟨rfl,⟨nd,rfl⟩⟩;(try first|exact ⟨rfl,_,World.drewN_drewN _ _ _⟩|exact ⟨rfl,_,Eq.trans (World.drewN_drewN _ _ _) (congrArg (World.drewN _) (Nat.add_assoc _ _ _))⟩))))
       go_meet
       case rel => exact ⟨_,(true),rfS,H',⟨by have:=HJ1.out;first | omega|exact Nat.le_refl _⟩,⟨by refine pB ?_;exact BK166.out⟩,⟨bW⟩⟩
     ·replace c21:=Bool.eq_false_iff.mpr c21
      subst c21
      have H1:=H
      rw [if_neg (show ¬ (false = true) by decide)] at H1
      clear H
      have H:=H1
      clear H1
      have H':=aMk H
      clear H
      obtain ⟨Z31_0,Z31_1,Z31_2,Z31_3,Z31_4,Z31_5,Z31_6,Z31_7,Z31_8,Z31_9,Z31_10,Y31_0,Y31_1,Y31_2,Y31_3,Y31_4,Y31_5,Y31_6,Y31_7,Y31_8,Y31_9,Y31_10⟩:=bC11 BK166.out
      go_wp2_with (first|(go_at_call 61;(with_reducible refine (impl_isAddress.calls a0_5 false _ A20.out).mono ?_);rintro e w' ⟨rfl,⟨nd,rfl⟩⟩;(try first|exact ⟨rfl,_,World.drewN_drewN _ _ _⟩|exact ⟨rfl,_,Eq.trans (World.drewN_drewN _ _ _) (congrArg (World.drewN _) (Nat.add_assoc _ _ _))⟩)))
      repeat (go_quiet (first|(go_at_call 61;(with_reducible refine (impl_isAddress.calls a0_5 false _ A20.out).mono ?_);rintro e w' ⟨rfl,⟨nd,rfl⟩⟩;(try first|exact ⟨rfl,_,World.drewN_drewN _ _ _⟩|exact ⟨rfl,_,Eq.trans (World.drewN_drewN _ _ _) (congrArg (World.drewN _) (Nat.add_assoc _ _ _))⟩)));try go_wp2_with (first|(go_at_call 61;(with_reducible refine (impl_isAddress.calls a0_5 false _ A20.out).mono ?_);rintro e w' ⟨rfl,⟨nd,rfl⟩⟩;(try first|exact ⟨rfl,_,World.drewN_drewN _ _ _⟩|exact ⟨rfl,_,Eq.trans (World.drewN_drewN _ _ _) (congrArg (World.drewN _) (Nat.add_assoc _ _ _))⟩))))
      go_meet
      case rel => exact ⟨_,(true),rfS,H',⟨by have:=HJ1.out;first | omega|exact Nat.le_refl _⟩,⟨by refine pB ?_;exact BK166.out⟩,⟨bW⟩⟩
    case rest =>
     clear HC19
     try clear Z13_0 Z13_1 Z13_10 Z13_2 Z13_3 Z13_4 Z13_5 Z13_6 Z13_7 Z13_8 Z13_9
     try clear Z14_0 Z14_1 Z14_10 Z14_2 Z14_3 Z14_4 Z14_5 Z14_6 Z14_7 Z14_8 Z14_9
     try clear Z15_0 Z15_1 Z15_10 Z15_2 Z15_3 Z15_4 Z15_5 Z15_6 Z15_7 Z15_8 Z15_9
     try clear Z16_0 Z16_1 Z16_10 Z16_2 Z16_3 Z16_4 Z16_5 Z16_6 Z16_7 Z16_8 Z16_9
     try clear Z17_0 Z17_1 Z17_10 Z17_2 Z17_3 Z17_4 Z17_5 Z17_6 Z17_7 Z17_8 Z17_9
     try clear Z27_0 Z27_1 Z27_10 Z27_2 Z27_3 Z27_4 Z27_5 Z27_6 Z27_7 Z27_8 Z27_9
     try clear Z28_0 Z28_1 Z28_10 Z28_2 Z28_3 Z28_4 Z28_5 Z28_6 Z28_7 Z28_8 Z28_9
     try clear Z29_0 Z29_1 Z29_10 Z29_2 Z29_3 Z29_4 Z29_5 Z29_6 Z29_7 Z29_8 Z29_9
     try clear Z30_0 Z30_1 Z30_10 Z30_2 Z30_3 Z30_4 Z30_5 Z30_6 Z30_7 Z30_8 Z30_9
     try clear Z31_0 Z31_1 Z31_10 Z31_2 Z31_3 Z31_4 Z31_5 Z31_6 Z31_7 Z31_8 Z31_9
     try clear Y13_0 Y13_1 Y13_10 Y13_2 Y13_3 Y13_4 Y13_5 Y13_6 Y13_7 Y13_8 Y13_9
     try clear Y14_0 Y14_1 Y14_10 Y14_2 Y14_3 Y14_4 Y14_5 Y14_6 Y14_7 Y14_8 Y14_9
     try clear Y15_0 Y15_1 Y15_10 Y15_2 Y15_3 Y15_4 Y15_5 Y15_6 Y15_7 Y15_8 Y15_9
     try clear Y16_0 Y16_1 Y16_10 Y16_2 Y16_3 Y16_4 Y16_5 Y16_6 Y16_7 Y16_8 Y16_9
     try clear Y17_0 Y17_1 Y17_10 Y17_2 Y17_3 Y17_4 Y17_5 Y17_6 Y17_7 Y17_8 Y17_9
     try clear Y27_0 Y27_1 Y27_10 Y27_2 Y27_3 Y27_4 Y27_5 Y27_6 Y27_7 Y27_8 Y27_9
     try clear Y28_0 Y28_1 Y28_10 Y28_2 Y28_3 Y28_4 Y28_5 Y28_6 Y28_7 Y28_8 Y28_9
     try clear Y29_0 Y29_1 Y29_10 Y29_2 Y29_3 Y29_4 Y29_5 Y29_6 Y29_7 Y29_8 Y29_9
     try clear Y30_0 Y30_1 Y30_10 Y30_2 Y30_3 Y30_4 Y30_5 Y30_6 Y30_7 Y30_8 Y30_9
     try clear Y31_0 Y31_1 Y31_10 Y31_2 Y31_3 Y31_4 Y31_5 Y31_6 Y31_7 Y31_8 Y31_9
     obtain ⟨kq,x58_18,rfl,HA,HJ18,BK166,HB⟩:=hcut
     cases kq with
     | zero => exact absurd HA.out (by simp [impl_ConnOK.j1])
     | succ kj18 =>
      have H:=HA.out
      clear HA
      simp only [impl_ConnOK.j1] at H
      by_cases c32:x58_18 = true
      ·subst c32
       have H1:=H
       rw [if_pos rfl] at H1
       clear H
       have H:=H1
       clear H1
       obtain rfl:=Option.some.inj H
       go_wp2
       repeat (go_quiet (fail);try go_wp2)
       go_ret
       exact ⟨eRf,bW⟩
      ·replace c32:=Bool.eq_false_iff.mpr c32
       subst c32
       have H1:=H
       rw [if_neg (show ¬ (false = true) by decide)] at H1
       clear H
       have H:=H1
       clear H1
       have HC33:=aMk H
       clear H
       go_upto_region 5 with (fail)
       repeat (go_quiet (fail);go_upto_region 5 with (fail))
       go_cut [84] (fun v84 wc => ∃ (kq:Nat) (x84_32:Bool),v84 = .bool x84_32∧Aside0 (impl_ConnOK.j2 kq x84_32 a0_0 a0_1 a0_2 a0_3 a0_4 a0_5 a0_6 a0_7 a0_8 a0_9 a0_10 = some r)∧Aside0 (kq≤kj18)∧Aside0 (wc.heap[gb166]? = some (.cells #[.string a0_0,.int .i64 a0_1,.int .i64 a0_2,.int .i64 a0_3,.int .i64 a0_4,.int .i64 a0_5,.int .i64 a0_6,.int .i64 a0_7,.string a0_8,.string a0_9,.bool a0_10] 34 (0,0)))∧Aside0 (Below w.heap.size w wc))
       case first =>
        have H:=HC33.out
        clear HC33
        by_cases c34:(a0_10 != (a0_4 == 3)) = true
        ·rw [if_pos c34] at H
         have c34b0:(a0_10 != (a0_4 == 3)) = true:=c34
         (try (have c34b1:decide (a0_10 = (a0_4 == 3)) = false:=by simpa using c34))
         (try (have c34b2:(a0_10 == (a0_4 == 3)) = false:=by simpa using c34))
         (try (have c34b3:¬ (a0_10 = (a0_4 == 3)):=by simpa using c34))
         clear c34
         (first|rw [c34b0]|(simp only [i64_w,i32_w];rw [c34b0]) | skip)
         have H':=aMk H
         clear H
         obtain ⟨Z35_0,Z35_1,Z35_2,Z35_3,Z35_4,Z35_5,Z35_6,Z35_7,Z35_8,Z35_9,Z35_10,Y35_0,Y35_1,Y35_2,Y35_3,Y35_4,Y35_5,Y35_6,Y35_7,Y35_8,Y35_9,Y35_10⟩:=bC11 BK166.out
         go_wp2
         repeat (go_quiet (fail);try go_wp2)
         go_meet
         case rel => exact ⟨_,(true),rfS,H',⟨by have:=HJ1.out;have:=HJ18.out;first | omega|exact Nat.le_refl _⟩,⟨by refine pB ?_;exact BK166.out⟩,⟨bW⟩⟩
        ·rw [if_neg c34] at H
         have c34b0:(a0_10 != (a0_4 == 3)) = false:=by simpa using c34
         (try (have c34b1:decide (a0_10 = (a0_4 == 3)) = true:=by simpa using c34))
         (try (have c34b2:(a0_10 == (a0_4 == 3)) = true:=by simpa using c34))
         clear c34
         (first|rw [c34b0]|(simp only [i64_w,i32_w];rw [c34b0]) | skip)
         by_cases c36:a0_10 = true
         ·subst c36
          have H1:=H
          rw [if_pos rfl] at H1
          clear H
          have H:=H1
          clear H1
          by_cases c37:a0_4 = 1
          ·rw [if_pos c37] at H
           have c37b0:(a0_4 == 1) = true:=beq_iff_eq.mpr c37
           have c37b1:(a0_4 != 1) = false:=bne_eq_false_iff_eq.mpr c37
           clear c37
           have H':=aMk H
           clear H
           obtain ⟨Z38_0,Z38_1,Z38_2,Z38_3,Z38_4,Z38_5,Z38_6,Z38_7,Z38_8,Z38_9,Z38_10,Y38_0,Y38_1,Y38_2,Y38_3,Y38_4,Y38_5,Y38_6,Y38_7,Y38_8,Y38_9,Y38_10⟩:=bC11 BK166.out
           go_wp2
           repeat (go_quiet (fail);try go_wp2)
           go_meet
           case rel => exact ⟨_,((a0_8.toList != ([]:List UInt8))),rfS,H',⟨by have:=HJ1.out;have:=HJ18.out;first | omega|exact Nat.le_refl _⟩,⟨by refine pB ?_;exact BK166.out⟩,⟨bW⟩⟩
          ·rw [if_neg c37] at H
           have c37b0:(a0_4 == 1) = false:=beq_eq_false_iff_ne.mpr c37
           have c37b1:(a0_4 != 1) = true:=bne_iff_ne.mpr c37
           have H':=aMk H
           clear H
           obtain ⟨Z39_0,Z39_1,Z39_2,Z39_3,Z39_4,Z39_5,Z39_6,Z39_7,Z39_8,Z39_9,Z39_10,Y39_0,Y39_1,Y39_2,Y39_3,Y39_4,Y39_5,Y39_6,Y39_7,Y39_8,Y39_9,Y39_10⟩:=bC11 BK166.out
           go_wp2
           repeat (go_quiet (fail);try go_wp2)
           go_meet
           case rel => exact ⟨_,(false),rfS,H',⟨by have:=HJ1.out;have:=HJ18.out;first | omega|exact Nat.le_refl _⟩,⟨by refine pB ?_;exact BK166.out⟩,⟨bW⟩⟩
         ·replace c36:=Bool.eq_false_iff.mpr c36
          subst c36
          have H1:=H
          rw [if_neg (show ¬ (false = true) by decide)] at H1
          clear H
          have H:=H1
          clear H1
          by_cases c40:a0_9.toList = ([]:List UInt8)
          ·rw [if_pos c40] at H
           have c40b0:(a0_9.toList == ([]:List UInt8)) = true:=beq_iff_eq.mpr c40
           have c40b1:(a0_9.toList != ([]:List UInt8)) = false:=bne_eq_false_iff_eq.mpr c40
           clear c40
           by_cases c41:a0_4 = 1
           ·rw [if_pos c41] at H
            have c41b0:(a0_4 == 1) = true:=beq_iff_eq.mpr c41
            have c41b1:(a0_4 != 1) = false:=bne_eq_false_iff_eq.mpr c41
            clear c41
            have H':=aMk H
            clear H
            obtain ⟨Z42_0,Z42_1,Z42_2,Z42_3,Z42_4,Z42_5,Z42_6,Z42_7,Z42_8,Z42_9,Z42_10,Y42_0,Y42_1,Y42_2,Y42_3,Y42_4,Y42_5,Y42_6,Y42_7,Y42_8,Y42_9,Y42_10⟩:=bC11 BK166.out
            go_wp2
            repeat (go_quiet (fail);try go_wp2)
            go_meet
            case rel => exact ⟨_,((a0_8.toList != ([]:List UInt8))),rfS,H',⟨by have:=HJ1.out;have:=HJ18.out;first | omega|exact Nat.le_refl _⟩,⟨by refine pB ?_;exact BK166.out⟩,⟨bW⟩⟩
           ·rw [if_neg c41] at H
            have c41b0:(a0_4 == 1) = false:=beq_eq_false_iff_ne.mpr c41
            have c41b1:(a0_4 != 1) = true:=bne_iff_ne.mpr c41
            have H':=aMk H
            clear H
            obtain ⟨Z43_0,Z43_1,Z43_2,Z43_3,Z43_4,Z43_5,Z43_6,Z43_7,Z43_8,Z43_9,Z43_10,Y43_0,Y43_1,Y43_2,Y43_3,Y43_4,Y43_5,Y43_6,Y43_7,Y43_8,Y43_9,Y43_10⟩:=bC11 BK166.out
            go_wp2
            repeat (go_quiet (fail);try go_wp2)
            go_meet
            case rel => exact ⟨_,(false),rfS,H',⟨by have:=HJ1.out;have:=HJ18.out;first | omega|exact Nat.le_refl _⟩,⟨by refine pB ?_;exact BK166.out⟩,⟨bW⟩⟩
          ·rw [if_neg c40] at H
           have c40b0:(a0_9.toList == ([]:List UInt8)) = false:=beq_eq_false_iff_ne.mpr c40
           have c40b1:(a0_9.toList != ([]:List UInt8)) = true:=bne_iff_ne.mpr c40
           have H':=aMk H
           clear H
           obtain ⟨Z44_0,Z44_1,Z44_2,Z44_3,Z44_4,Z44_5,Z44_6,Z44_7,Z44_8,Z44_9,Z44_10,Y44_0,Y44_1,Y44_2,Y44_3,Y44_4,Y44_5,Y44_6,Y44_7,Y44_8,Y44_9,Y44_10⟩:=bC11 BK166.out
           go_wp2
           repeat (go_quiet (fail);try go_wp2)
           go_meet
           case rel => exact ⟨_,(true),rfS,H',⟨by have:=HJ1.out;have:=HJ18.out;first | omega|exact Nat.le_refl _⟩,⟨by refine pB ?_;exact BK166.out⟩,⟨bW⟩⟩
       case rest =>
        clear HC33
        try clear Z13_0 Z13_1 Z13_10 Z13_2 Z13_3 Z13_4 Z13_5 Z13_6 Z13_7 Z13_8 Z13_9
        try clear Z14_0 Z14_1 Z14_10 Z14_2 Z14_3 Z14_4 Z14_5 Z14_6 Z14_7 Z14_8 Z14_9
        try clear Z15_0 Z15_1 Z15_10 Z15_2 Z15_3 Z15_4 Z15_5 Z15_6 Z15_7 Z15_8 Z15_9
        try clear Z16_0 Z16_1 Z16_10 Z16_2 Z16_3 Z16_4 Z16_5 Z16_6 Z16_7 Z16_8 Z16_9
        try clear Z17_0 Z17_1 Z17_10 Z17_2 Z17_3 Z17_4 Z17_5 Z17_6 Z17_7 Z17_8 Z17_9
        try clear Z27_0 Z27_1 Z27_10 Z27_2 Z27_3 Z27_4 Z27_5 Z27_6 Z27_7 Z27_8 Z27_9
        try clear Z28_0 Z28_1 Z28_10 Z28_2 Z28_3 Z28_4 Z28_5 Z28_6 Z28_7 Z28_8 Z28_9
        try clear Z29_0 Z29_1 Z29_10 Z29_2 Z29_3 Z29_4 Z29_5 Z29_6 Z29_7 Z29_8 Z29_9
        try clear Z30_0 Z30_1 Z30_10 Z30_2 Z30_3 Z30_4 Z30_5 Z30_6 Z30_7 Z30_8 Z30_9
        try clear Z31_0 Z31_1 Z31_10 Z31_2 Z31_3 Z31_4 Z31_5 Z31_6 Z31_7 Z31_8 Z31_9
        try clear Z35_0 Z35_1 Z35_10 Z35_2 Z35_3 Z35_4 Z35_5 Z35_6 Z35_7 Z35_8 Z35_9
        try clear Z38_0 Z38_1 Z38_10 Z38_2 Z38_3 Z38_4 Z38_5 Z38_6 Z38_7 Z38_8 Z38_9
        try clear Z39_0 Z39_1 Z39_10 Z39_2 Z39_3 Z39_4 Z39_5 Z39_6 Z39_7 Z39_8 Z39_9
        try clear Z42_0 Z42_1 Z42_10 Z42_2 Z42_3 Z42_4 Z42_5 Z42_6 Z42_7 Z42_8 Z42_9
        try clear Z43_0 Z43_1 Z43_10 Z43_2 Z43_3 Z43_4 Z43_5 Z43_6 Z43_7 Z43_8 Z43_9
        try clear Z44_0 Z44_1 Z44_10 Z44_2 Z44_3 Z44_4 Z44_5 Z44_6 Z44_7 Z44_8 Z44_9
        try clear Y13_0 Y13_1 Y13_10 Y13_2 Y13_3 Y13_4 Y13_5 Y13_6 Y13_7 Y13_8 Y13_9
        try clear Y14_0 Y14_1 Y14_10 Y14_2 Y14_3 Y14_4 Y14_5 Y14_6 Y14_7 Y14_8 Y14_9
        try clear Y15_0 Y15_1 Y15_10 Y15_2 Y15_3 Y15_4 Y15_5 Y15_6 Y15_7 Y15_8 Y15_9
        try clear Y16_0 Y16_1 Y16_10 Y16_2 Y16_3 Y16_4 Y16_5 Y16_6 Y16_7 Y16_8 Y16_9
        try clear Y17_0 Y17_1 Y17_10 Y17_2 Y17_3 Y17_4 Y17_5 Y17_6 Y17_7 Y17_8 Y17_9
        try clear Y27_0 Y27_1 Y27_10 Y27_2 Y27_3 Y27_4 Y27_5 Y27_6 Y27_7 Y27_8 Y27_9
        try clear Y28_0 Y28_1 Y28_10 Y28_2 Y28_3 Y28_4 Y28_5 Y28_6 Y28_7 Y28_8 Y28_9
        try clear Y29_0 Y29_1 Y29_10 Y29_2 Y29_3 Y29_4 Y29_5 Y29_6 Y29_7 Y29_8 Y29_9
        try clear Y30_0 Y30_1 Y30_10 Y30_2 Y30_3 Y30_4 Y30_5 Y30_6 Y30_7 Y30_8 Y30_9
        try clear Y31_0 Y31_1 Y31_10 Y31_2 Y31_3 Y31_4 Y31_5 Y31_6 Y31_7 Y31_8 Y31_9
        try clear Y35_0 Y35_1 Y35_10 Y35_2 Y35_3 Y35_4 Y35_5 Y35_6 Y35_7 Y35_8 Y35_9
        try clear Y38_0 Y38_1 Y38_10 Y38_2 Y38_3 Y38_4 Y38_5 Y38_6 Y38_7 Y38_8 Y38_9
        try clear Y39_0 Y39_1 Y39_10 Y39_2 Y39_3 Y39_4 Y39_5 Y39_6 Y39_7 Y39_8 Y39_9
        try clear Y42_0 Y42_1 Y42_10 Y42_2 Y42_3 Y42_4 Y42_5 Y42_6 Y42_7 Y42_8 Y42_9
        try clear Y43_0 Y43_1 Y43_10 Y43_2 Y43_3 Y43_4 Y43_5 Y43_6 Y43_7 Y43_8 Y43_9
        try clear Y44_0 Y44_1 Y44_10 Y44_2 Y44_3 Y44_4 Y44_5 Y44_6 Y44_7 Y44_8 Y44_9
        obtain ⟨kq,x84_32,rfl,HA,HJ32,BK166,HB⟩:=hcut
        cases kq with
        | zero => exact absurd HA.out (by simp [impl_ConnOK.j2])
        | succ kj32 =>
         have H:=HA.out
         clear HA
         simp only [impl_ConnOK.j2] at H
         by_cases c45:x84_32 = true
         ·subst c45
          have H1:=H
          rw [if_pos rfl] at H1
          clear H
          have H:=H1
          clear H1
          obtain rfl:=Option.some.inj H
          go_wp2
          repeat (go_quiet (fail);try go_wp2)
          go_ret
          exact ⟨eRf,bW⟩
         ·replace c45:=Bool.eq_false_iff.mpr c45
          subst c45
          have H1:=H
          rw [if_neg (show ¬ (false = true) by decide)] at H1
          clear H
          have H:=H1
          clear H1
          replace H:=Option.bind_eq_some_iff.mp H
          obtain ⟨t175,A460,H⟩:=H
          try dsimp only at H
          have A46:=aMk A460
          clear A460
          replace H:=Option.bind_eq_some_iff.mp H
          obtain ⟨t176,A470,H⟩:=H
          try dsimp only at H
          have A47:=aMk A470
          clear A470
          replace H:=Option.bind_eq_some_iff.mp H
          obtain ⟨t177,A480,H⟩:=H
          try dsimp only at H
          have A48:=aMk A480
          clear A480
          obtain rfl:=Option.some.inj H
          obtain ⟨Z49_0,Z49_1,Z49_2,Z49_3,Z49_4,Z49_5,Z49_6,Z49_7,Z49_8,Z49_9,Z49_10,Y49_0,Y49_1,Y49_2,Y49_3,Y49_4,Y49_5,Y49_6,Y49_7,Y49_8,Y49_9,Y49_10⟩:=bC11 BK166.out
          go_wp2_with (first|(go_at_call 63;(with_reducible refine (impl_behind.calls a0_6 a0_5 t175 _ A46.out).mono ?_);rintro e w' ⟨rfl,⟨nd,rfl⟩⟩;(try first|exact ⟨rfl,_,World.drewN_drewN _ _ _⟩|exact ⟨rfl,_,Eq.trans (World.drewN_drewN _ _ _) (congrArg (World.drewN _) (Nat.add_assoc _ _ _))⟩))|(go_at_call 74;(with_reducible refine (impl_oneIf.calls a0_10 t176 _ A47.out).mono ?_);rintro e w' ⟨rfl,⟨nd,rfl⟩⟩;(try first|exact ⟨rfl,_,World.drewN_drewN _ _ _⟩|exact ⟨rfl,_,Eq.trans (World.drewN_drewN _ _ _) (congrArg (World.drewN _) (Nat.add_assoc _ _ _))⟩))|(go_at_call 74;(with_reducible refine (impl_oneIf.calls (a0_4 == 1) t177 _ A48.out).mono ?_);rintro e w' ⟨rfl,⟨nd,rfl⟩⟩;(try first|exact ⟨rfl,_,World.drewN_drewN _ _ _⟩|exact ⟨rfl,_,Eq.trans (World.drewN_drewN _ _ _) (congrArg (World.drewN _) (Nat.add_assoc _ _ _))⟩)))
          repeat (go_quiet (first|(go_at_call 63;(with_reducible refine (impl_behind.calls a0_6 a0_5 t175 _ A46.out).mono ?_);rintro e w' ⟨rfl,⟨nd,rfl⟩⟩;(try first|exact ⟨rfl,_,World.drewN_drewN _ _ _⟩|exact ⟨rfl,_,Eq.trans (World.drewN_drewN _ _ _) (congrArg (World.drewN _) (Nat.add_assoc _ _ _))⟩))|(go_at_call 74;(with_reducible refine (impl_oneIf.calls a0_10 t176 _ A47.out).mono ?_);rintro e w' ⟨rfl,⟨nd,rfl⟩⟩;(try first|exact ⟨rfl,_,World.drewN_drewN _ _ _⟩|exact ⟨rfl,_,Eq.trans (World.drewN_drewN _ _ _) (congrArg (World.drewN _) (Nat.add_assoc _ _ _))⟩))|(go_at_call 74;(with_reducible refine (impl_oneIf.calls (a0_4 == 1) t177 _ A48.out).mono ?_);rintro e w' ⟨rfl,⟨nd,rfl⟩⟩;(try first|exact ⟨rfl,_,World.drewN_drewN _ _ _⟩|exact ⟨rfl,_,Eq.trans (World.drewN_drewN _ _ _) (congrArg (World.drewN _) (Nat.add_assoc _ _ _))⟩)));try go_wp2_with (first|(go_at_call 63;(with_reducible refine (impl_behind.calls a0_6 a0_5 t175 _ A46.out).mono ?_);rintro e w' ⟨rfl,⟨nd,rfl⟩⟩;(try first|exact ⟨rfl,_,World.drewN_drewN _ _ _⟩|exact ⟨rfl,_,Eq.trans (World.drewN_drewN _ _ _) (congrArg (World.drewN _) (Nat.add_assoc _ _ _))⟩))|(go_at_call 74;(with_reducible refine (impl_oneIf.calls a0_10 t176 _ A47.out).mono ?_);rintro e w' ⟨rfl,⟨nd,rfl⟩⟩;(try first|exact ⟨rfl,_,World.drewN_drewN _ _ _⟩|exact ⟨rfl,_,Eq.trans (World.drewN_drewN _ _ _) (congrArg (World.drewN _) (Nat.add_assoc _ _ _))⟩))|(go_at_call 74;(with_reducible refine (impl_oneIf.calls (a0_4 == 1) t177 _ A48.out).mono ?_);rintro e w' ⟨rfl,⟨nd,rfl⟩⟩;(try first|exact ⟨rfl,_,World.drewN_drewN _ _ _⟩|exact ⟨rfl,_,Eq.trans (World.drewN_drewN _ _ _) (congrArg (World.drewN _) (Nat.add_assoc _ _ _))⟩))))
          go_ret
          exact ⟨eRf,bW⟩
end
section
/-! ### impl_segmentOK: function 84 -/
def impl_segmentOK.f (a0_0 a0_1:Int) (a0_2 a0_3:Int) (a0_4 a0_5:Int) (a0_6:ByteArray):Option (Bool):=(impl_isPort.f a0_0).bind fun t395 => (if t395 = true then ((impl_isPort.f a0_1).bind fun t396 => (if t396 = true then ((impl_isAddress.f a0_2).bind fun t397 => (if t397 = true then ((impl_isAddress.f a0_3).bind fun t398 => (if t398 = true then ((impl_within.f a0_4 0 31).bind fun t399 => (if t399 = true then ((impl_isPort.f a0_5).bind fun t400 => (if t400 = true then (some (decide ((a0_6.size:Int)≤360))) else (some false))) else (some false))) else (some false))) else (some false))) else (some false))) else (some false))
set_option maxHeartbeats 8000000 in
set_option maxRecDepth 100000 in
theorem impl_segmentOK.calls (a0_0 a0_1:Int) (a0_2 a0_3:Int) (a0_4 a0_5:Int) (a0_6:ByteArray) (r:Bool) (w:World) (h:impl_segmentOK.f a0_0 a0_1 a0_2 a0_3 a0_4 a0_5 a0_6 = some r) :
  Calls Try.prog 84 #[.agg #[.int .i64 a0_0,.int .i64 a0_1,.int .i64 a0_2,.int .i64 a0_3,.int .i64 a0_4,.int .i64 a0_5,.string a0_6]] w fun e w' => e = .returned (.bool r)∧Below w.heap.size w w':=by
 have hu53:=Try.underlying53
 have HB:=aMk (Below.refl w.heap.size w)
 have H:=h
 unfold impl_segmentOK.f at H
 clear h
 replace H:=Option.bind_eq_some_iff.mp H
 obtain ⟨t395,A20,H⟩:=H
 try dsimp only at H
 have A2:=aMk A20
 clear A20
 by_cases c3:t395 = true
 ·subst c3
  have H1:=H
  rw [if_pos rfl] at H1
  clear H
  have H:=H1
  clear H1
  replace H:=Option.bind_eq_some_iff.mp H
  obtain ⟨t396,A40,H⟩:=H
  try dsimp only at H
  have A4:=aMk A40
  clear A40
  by_cases c5:t396 = true
  ·subst c5
   have H1:=H
   rw [if_pos rfl] at H1
   clear H
   have H:=H1
   clear H1
   replace H:=Option.bind_eq_some_iff.mp H
   obtain ⟨t397,A60,H⟩:=H
   try dsimp only at H
   have A6:=aMk A60
   clear A60
   by_cases c7:t397 = true
   ·subst c7
    have H1:=H
    rw [if_pos rfl] at H1
    clear H
    have H:=H1
    clear H1
    replace H:=Option.bind_eq_some_iff.mp H
    obtain ⟨t398,A80,H⟩:=H
    try dsimp only at H
    have A8:=aMk A80
    clear A80
    by_cases c9:t398 = true
    ·subst c9
     have H1:=H
     rw [if_pos rfl] at H1
     clear H
     have H:=H1
     clear H1
     replace H:=Option.bind_eq_some_iff.mp H
     obtain ⟨t399,A100,H⟩:=H
     try dsimp only at H
     have A10:=aMk A100
     clear A100
     by_cases c11:t399 = true
     ·subst c11
      have H1:=H
      rw [if_pos rfl] at H1
      clear H
      have H:=H1
      clear H1
      replace H:=Option.bind_eq_some_iff.mp H
      obtain ⟨t400,A120,H⟩:=H
      try dsimp only at H
      have A12:=aMk A120
      clear A120
      by_cases c13:t400 = true
      ·subst c13
       have H1:=H
       rw [if_pos rfl] at H1
       clear H
       have H:=H1
       clear H1
       obtain rfl:=Option.some.inj H
       go_enter Try.func84,Try.ntmps84
       go_wp2_with (first|((with_reducible refine gate_dst (N:=1) rfl ?_);(try (refine gate_guard (by rfl) ?_;dsimp only));refine bxE (N:=1) (cs:=#[.int .i64 a0_0,.int .i64 a0_1,.int .i64 a0_2,.int .i64 a0_3,.int .i64 a0_4,.int .i64 a0_5,.string a0_6]) (t:=53) ?_;intro gb394 hg w14 hbox hb;have BK394:=aMk (hbox);have GW394:=aMk (bZ hg);have GE394:=aMk (bZ hg);replace HB:=aMk (bSt hb);clear hb hbox hg;obtain ⟨Z15_0,Z15_1,Z15_2,Z15_3,Z15_4,Z15_5,Z15_6,Y15_0,Y15_1,Y15_2,Y15_3,Y15_4,Y15_5,Y15_6⟩:=bC7 BK394.out)|((with_reducible refine gate_callee (f:=73) rfl ?_);refine gLs 5 Try.func73 #[.int .i64 a0_0] ?_;(with_reducible refine (impl_isPort.calls a0_0 true _ A2.out).mono ?_);rintro e w' ⟨rfl,⟨nd,rfl⟩⟩;refine ⟨_,rfl,?_⟩)|(go_at_call 73;(with_reducible refine (impl_isPort.calls a0_1 true _ A4.out).mono ?_);rintro e w' ⟨rfl,⟨nd,rfl⟩⟩)|(go_at_call 61;(with_reducible refine (impl_isAddress.calls a0_2 true _ A6.out).mono ?_);rintro e w' ⟨rfl,⟨nd,rfl⟩⟩)|(go_at_call 61;(with_reducible refine (impl_isAddress.calls a0_3 true _ A8.out).mono ?_);rintro e w' ⟨rfl,⟨nd,rfl⟩⟩)|(go_at_call 62;(with_reducible refine (impl_within.calls a0_4 0 31 true _ A10.out).mono ?_);rintro e w' ⟨rfl,⟨nd,rfl⟩⟩)|(go_at_call 73;(with_reducible refine (impl_isPort.calls a0_5 true _ A12.out).mono ?_);rintro e w' ⟨rfl,⟨nd,rfl⟩⟩))
       go_ret
       exact ⟨eRf,bW⟩
      ·replace c13:=Bool.eq_false_iff.mpr c13
       subst c13
       have H1:=H
       rw [if_neg (show ¬ (false = true) by decide)] at H1
       clear H
       have H:=H1
       clear H1
       obtain rfl:=Option.some.inj H
       go_enter Try.func84,Try.ntmps84
       go_wp2_with (first|((with_reducible refine gate_dst (N:=1) rfl ?_);(try (refine gate_guard (by rfl) ?_;dsimp only));refine bxE (N:=1) (cs:=#[.int .i64 a0_0,.int .i64 a0_1,.int .i64 a0_2,.int .i64 a0_3,.int .i64 a0_4,.int .i64 a0_5,.string a0_6]) (t:=53) ?_;intro gb394 hg w16 hbox hb;have BK394:=aMk (hbox);have GW394:=aMk (bZ hg);have GE394:=aMk (bZ hg);replace HB:=aMk (bSt hb);clear hb hbox hg;obtain ⟨Z17_0,Z17_1,Z17_2,Z17_3,Z17_4,Z17_5,Z17_6,Y17_0,Y17_1,Y17_2,Y17_3,Y17_4,Y17_5,Y17_6⟩:=bC7 BK394.out)|((with_reducible refine gate_callee (f:=73) rfl ?_);refine gLs 5 Try.func73 #[.int .i64 a0_0] ?_;(with_reducible refine (impl_isPort.calls a0_0 true _ A2.out).mono ?_);rintro e w' ⟨rfl,⟨nd,rfl⟩⟩;refine ⟨_,rfl,?_⟩)|(go_at_call 73;(with_reducible refine (impl_isPort.calls a0_1 true _ A4.out).mono ?_);rintro e w' ⟨rfl,⟨nd,rfl⟩⟩)|(go_at_call 61;(with_reducible refine (impl_isAddress.calls a0_2 true _ A6.out).mono ?_);rintro e w' ⟨rfl,⟨nd,rfl⟩⟩)|(go_at_call 61;(with_reducible refine (impl_isAddress.calls a0_3 true _ A8.out).mono ?_);rintro e w' ⟨rfl,⟨nd,rfl⟩⟩)|(go_at_call 62;(with_reducible refine (impl_within.calls a0_4 0 31 true _ A10.out).mono ?_);rintro e w' ⟨rfl,⟨nd,rfl⟩⟩)|(go_at_call 73;(with_reducible refine (impl_isPort.calls a0_5 false _ A12.out).mono ?_);rintro e w' ⟨rfl,⟨nd,rfl⟩⟩))
       go_ret
       exact ⟨eRf,bW⟩
     ·replace c11:=Bool.eq_false_iff.mpr c11
      subst c11
      have H1:=H
      rw [if_neg (show ¬ (false = true) by decide)] at H1
      clear H
      have H:=H1
      clear H1
      obtain rfl:=Option.some.inj H
      go_enter Try.func84,Try.ntmps84
      go_wp2_with (first|((with_reducible refine gate_dst (N:=1) rfl ?_);(try (refine gate_guard (by rfl) ?_;dsimp only));refine bxE (N:=1) (cs:=#[.int .i64 a0_0,.int .i64 a0_1,.int .i64 a0_2,.int .i64 a0_3,.int .i64 a0_4,.int .i64 a0_5,.string a0_6]) (t:=53) ?_;intro gb394 hg w18 hbox hb;have BK394:=aMk (hbox);have GW394:=aMk (bZ hg);have GE394:=aMk (bZ hg);replace HB:=aMk (bSt hb);clear hb hbox hg;obtain ⟨Z19_0,Z19_1,Z19_2,Z19_3,Z19_4,Z19_5,Z19_6,Y19_0,Y19_1,Y19_2,Y19_3,Y19_4,Y19_5,Y19_6⟩:=bC7 BK394.out)|((with_reducible refine gate_callee (f:=73) rfl ?_);refine gLs 5 Try.func73 #[.int .i64 a0_0] ?_;(with_reducible refine (impl_isPort.calls a0_0 true _ A2.out).mono ?_);rintro e w' ⟨rfl,⟨nd,rfl⟩⟩;refine ⟨_,rfl,?_⟩)|(go_at_call 73;(with_reducible refine (impl_isPort.calls a0_1 true _ A4.out).mono ?_);rintro e w' ⟨rfl,⟨nd,rfl⟩⟩)|(go_at_call 61;(with_reducible refine (impl_isAddress.calls a0_2 true _ A6.out).mono ?_);rintro e w' ⟨rfl,⟨nd,rfl⟩⟩)|(go_at_call 61;(with_reducible refine (impl_isAddress.calls a0_3 true _ A8.out).mono ?_);rintro e w' ⟨rfl,⟨nd,rfl⟩⟩)|(go_at_call 62;(with_reducible refine (impl_within.calls a0_4 0 31 false _ A10.out).mono ?_);rintro e w' ⟨rfl,⟨nd,rfl⟩⟩))
      go_ret
      exact ⟨eRf,bW⟩
    ·replace c9:=Bool.eq_false_iff.mpr c9
     subst c9
     have H1:=H
     rw [if_neg (show ¬ (false = true) by decide)] at H1
     clear H
     have H:=H1
     clear H1
     obtain rfl:=Option.some.inj H
     go_enter Try.func84,Try.ntmps84
     go_wp2_with (first|((with_reducible refine gate_dst (N:=1) rfl ?_);(try (refine gate_guard (by rfl) ?_;dsimp only));refine bxE (N:=1) (cs:=#[.int .i64 a0_0,.int .i64 a0_1,.int .i64 a0_2,.int .i64 a0_3,.int .i64 a0_4,.int .i64 a0_5,.string a0_6]) (t:=53) ?_;intro gb394 hg w20 hbox hb;have BK394:=aMk (hbox);have GW394:=aMk (bZ hg);have GE394:=aMk (bZ hg);replace HB:=aMk (bSt hb);clear hb hbox hg;obtain ⟨Z21_0,Z21_1,Z21_2,Z21_3,Z21_4,Z21_5,Z21_6,Y21_0,Y21_1,Y21_2,Y21_3,Y21_4,Y21_5,Y21_6⟩:=bC7 BK394.out)|((with_reducible refine gate_callee (f:=73) rfl ?_);refine gLs 5 Try.func73 #[.int .i64 a0_0] ?_;(with_reducible refine (impl_isPort.calls a0_0 true _ A2.out).mono ?_);rintro e w' ⟨rfl,⟨nd,rfl⟩⟩;refine ⟨_,rfl,?_⟩)|(go_at_call 73;(with_reducible refine (impl_isPort.calls a0_1 true _ A4.out).mono ?_);rintro e w' ⟨rfl,⟨nd,rfl⟩⟩)|(go_at_call 61;(with_reducible refine (impl_isAddress.calls a0_2 true _ A6.out).mono ?_);rintro e w' ⟨rfl,⟨nd,rfl⟩⟩)|(go_at_call 61;(with_reducible refine (impl_isAddress.calls a0_3 false _ A8.out).mono ?_);rintro e w' ⟨rfl,⟨nd,rfl⟩⟩))
     go_ret
     exact ⟨eRf,bW⟩
   ·replace c7:=Bool.eq_false_iff.mpr c7
    subst c7
    have H1:=H
    rw [if_neg (show ¬ (false = true) by decide)] at H1
    clear H
    have H:=H1
    clear H1
    obtain rfl:=Option.some.inj H
    go_enter Try.func84,Try.ntmps84
    go_wp2_with (first|((with_reducible refine gate_dst (N:=1) rfl ?_);(try (refine gate_guard (by rfl) ?_;dsimp only));refine bxE (N:=1) (cs:=#[.int .i64 a0_0,.int .i64 a0_1,.int .i64 a0_2,.int .i64 a0_3,.int .i64 a0_4,.int .i64 a0_5,.string a0_6]) (t:=53) ?_;intro gb394 hg w22 hbox hb;have BK394:=aMk (hbox);have GW394:=aMk (bZ hg);have GE394:=aMk (bZ hg);replace HB:=aMk (bSt hb);clear hb hbox hg;obtain ⟨Z23_0,Z23_1,Z23_2,Z23_3,Z23_4,Z23_5,Z23_6,Y23_0,Y23_1,Y23_2,Y23_3,Y23_4,Y23_5,Y23_6⟩:=bC7 BK394.out)|((with_reducible refine gate_callee (f:=73) rfl ?_);refine gLs 5 Try.func73 #[.int .i64 a0_0] ?_;(with_reducible refine (impl_isPort.calls a0_0 true _ A2.out).mono ?_);rintro e w' ⟨rfl,⟨nd,rfl⟩⟩;refine ⟨_,rfl,?_⟩)|(go_at_call 73;(with_reducible refine (impl_isPort.calls a0_1 true _ A4.out).mono ?_);rintro e w' ⟨rfl,⟨nd,rfl⟩⟩)|(go_at_call 61;(with_reducible refine (impl_isAddress.calls a0_2 false _ A6.out).mono ?_);rintro e w' ⟨rfl,⟨nd,rfl⟩⟩))
    go_ret
    exact ⟨eRf,bW⟩
  ·replace c5:=Bool.eq_false_iff.mpr c5
   subst c5
   have H1:=H
   rw [if_neg (show ¬ (false = true) by decide)] at H1
   clear H
   have H:=H1
   clear H1
   obtain rfl:=Option.some.inj H
   go_enter Try.func84,Try.ntmps84
   go_wp2_with (first|((with_reducible refine gate_dst (N:=1) rfl ?_);(try (refine gate_guard (by rfl) ?_;dsimp only));refine bxE (N:=1) (cs:=#[.int .i64 a0_0,.int .i64 a0_1,.int .i64 a0_2,.int .i64 a0_3,.int .i64 a0_4,.int .i64 a0_5,.string a0_6]) (t:=53) ?_;intro gb394 hg w24 hbox hb;have BK394:=aMk (hbox);have GW394:=aMk (bZ hg);have GE394:=aMk (bZ hg);replace HB:=aMk (bSt hb);clear hb hbox hg;obtain ⟨Z25_0,Z25_1,Z25_2,Z25_3,Z25_4,Z25_5,Z25_6,Y25_0,Y25_1,Y25_2,Y25_3,Y25_4,Y25_5,Y25_6⟩:=bC7 BK394.out)|((with_reducible refine gate_callee (f:=73) rfl ?_);refine gLs 5 Try.func73 #[.int .i64 a0_0] ?_;(with_reducible refine (impl_isPort.calls a0_0 true _ A2.out).mono ?_);rintro e w' ⟨rfl,⟨nd,rfl⟩⟩;refine ⟨_,rfl,?_⟩)|(go_at_call 73;(with_reducible refine (impl_isPort.calls a0_1 false _ A4.out).mono ?_);rintro e w' ⟨rfl,⟨nd,rfl⟩⟩))
   go_ret
   exact ⟨eRf,bW⟩
 ·replace c3:=Bool.eq_false_iff.mpr c3
  subst c3
  have H1:=H
  rw [if_neg (show ¬ (false = true) by decide)] at H1
  clear H
  have H:=H1
  clear H1
  obtain rfl:=Option.some.inj H
  go_enter Try.func84,Try.ntmps84
  go_wp2_with (first|((with_reducible refine gate_dst (N:=1) rfl ?_);(try (refine gate_guard (by rfl) ?_;dsimp only));refine bxE (N:=1) (cs:=#[.int .i64 a0_0,.int .i64 a0_1,.int .i64 a0_2,.int .i64 a0_3,.int .i64 a0_4,.int .i64 a0_5,.string a0_6]) (t:=53) ?_;intro gb394 hg w26 hbox hb;have BK394:=aMk (hbox);have GW394:=aMk (bZ hg);have GE394:=aMk (bZ hg);replace HB:=aMk (bSt hb);clear hb hbox hg;obtain ⟨Z27_0,Z27_1,Z27_2,Z27_3,Z27_4,Z27_5,Z27_6,Y27_0,Y27_1,Y27_2,Y27_3,Y27_4,Y27_5,Y27_6⟩:=bC7 BK394.out)|((with_reducible refine gate_callee (f:=73) rfl ?_);refine gLs 5 Try.func73 #[.int .i64 a0_0] ?_;(with_reducible refine (impl_isPort.calls a0_0 false _ A2.out).mono ?_);rintro e w' ⟨rfl,⟨nd,rfl⟩⟩;refine ⟨_,rfl,?_⟩))
  go_ret
  exact ⟨eRf,bW⟩
end
section
/-! ### impl_ConnTake: function 58 -/
def impl_ConnTake.f (k:Nat) (a0_0:ByteArray) (a0_1 a0_2:Int) (a0_3 a0_4:Int) (a0_5 a0_6 a0_7:Int) (a0_8 a0_9:ByteArray) (a0_10:Bool) (a1_0 a1_1:Int) (a1_2 a1_3:Int) (a1_4 a1_5:Int) (a1_6:ByteArray):Option (ByteArray × Int × Int × Int × Int × Int × Int × Int × ByteArray × ByteArray × Bool × (List (S53)) × Int):=(impl_ConnOK.f k a0_0 a0_1 a0_2 a0_3 a0_4 a0_5 a0_6 a0_7 a0_8 a0_9 a0_10).bind fun t1293 => (if t1293 = true then ((impl_segmentOK.f a1_0 a1_1 a1_2 a1_3 a1_4 a1_5 a1_6).bind fun t1294 => (if t1294 = true then ((impl_Conn_take.f k a0_0 a0_1 a0_2 a0_3 a0_4 a0_5 a0_6 a0_7 a0_8 a0_9 a0_10 a1_0 a1_1 a1_2 a1_3 a1_4 a1_5 a1_6).bind fun bt1295 => (some (bt1295.2.1,bt1295.2.2.1,bt1295.2.2.2.1,bt1295.2.2.2.2.1,bt1295.2.2.2.2.2.1,bt1295.2.2.2.2.2.2.1,bt1295.2.2.2.2.2.2.2.1,bt1295.2.2.2.2.2.2.2.2.1,bt1295.2.2.2.2.2.2.2.2.2.1,bt1295.2.2.2.2.2.2.2.2.2.2.1,bt1295.2.2.2.2.2.2.2.2.2.2.2,bt1295.1,0))) else (some ((⟨#[]⟩:ByteArray),0,0,0,0,0,0,0,(⟨#[]⟩:ByteArray),(⟨#[]⟩:ByteArray),false,([]:List (S53)),1)))) else (some ((⟨#[]⟩:ByteArray),0,0,0,0,0,0,0,(⟨#[]⟩:ByteArray),(⟨#[]⟩:ByteArray),false,([]:List (S53)),1)))
theorem impl_ConnTake.mono:∀ a0 a1 a2 a3 a4 a5 a6 a7 a8 a9 a10 a11 a12 a13 a14 a15 a16 a17 k,LeO (impl_ConnTake.f k a0 a1 a2 a3 a4 a5 a6 a7 a8 a9 a10 a11 a12 a13 a14 a15 a16 a17) (impl_ConnTake.f (k + 1) a0 a1 a2 a3 a4 a5 a6 a7 a8 a9 a10 a11 a12 a13 a14 a15 a16 a17):=by
 intro a0 a1 a2 a3 a4 a5 a6 a7 a8 a9 a10 a11 a12 a13 a14 a15 a16 a17 k
 unfold impl_ConnTake.f
 repeat' first
   | (with_reducible exact impl_ConnOK.mono ..)
   | (with_reducible exact impl_Conn_take.mono ..)
   | (with_reducible exact LeO.refl _)
   | (with_reducible exact LeO.none _)
   | (with_reducible refine LeO.ite ?_ ?_)
   | (with_reducible refine LeO.bind ?_ (fun _ => ?_))
   | exact impl_ConnOK.mono ..
   | exact impl_Conn_take.mono ..
   | exact LeO.none _
   | refine LeO.ite ?_ ?_
   | refine LeO.bind ?_ (fun _ => ?_)
set_option maxHeartbeats 8000000 in
set_option maxRecDepth 100000 in
theorem impl_ConnTake.calls (k:Nat) (a0_0:ByteArray) (a0_1 a0_2:Int) (a0_3 a0_4:Int) (a0_5 a0_6 a0_7:Int) (a0_8 a0_9:ByteArray) (a0_10:Bool) (a1_0 a1_1:Int) (a1_2 a1_3:Int) (a1_4 a1_5:Int) (a1_6 r1:ByteArray) (r2 r3:Int) (r4 r5:Int) (r6 r7 r8:Int) (r9 r10:ByteArray) (r11:Bool) (r12:List (S53)) (r13:Int) (w:World) (h:impl_ConnTake.f k a0_0 a0_1 a0_2 a0_3 a0_4 a0_5 a0_6 a0_7 a0_8 a0_9 a0_10 a1_0 a1_1 a1_2 a1_3 a1_4 a1_5 a1_6 = some (r1,r2,r3,r4,r5,r6,r7,r8,r9,r10,r11,r12,r13)) :
  Calls Try.prog 58 #[.agg #[.string a0_0,.int .i64 a0_1,.int .i64 a0_2,.int .i64 a0_3,.int .i64 a0_4,.int .i64 a0_5,.int .i64 a0_6,.int .i64 a0_7,.string a0_8,.string a0_9,.bool a0_10],.agg #[.int .i64 a1_0,.int .i64 a1_1,.int .i64 a1_2,.int .i64 a1_3,.int .i64 a1_4,.int .i64 a1_5,.string a1_6]] w fun e w' => ∃ v11_:Value,e = .returned (.tuple #[.agg #[.string r1,.int .i64 r2,.int .i64 r3,.int .i64 r4,.int .i64 r5,.int .i64 r6,.int .i64 r7,.int .i64 r8,.string r9,.string r10,.bool r11],v11_,.int .i64 r13])∧Kd.R k53 53 w' w.heap.size (fun _ => True) v11_ r12∧Below w.heap.size w w':=by
 have hu34:=Try.underlying34
 have hu53:=Try.underlying53
 have HB:=aMk (Below.refl w.heap.size w)
 have H:=h
 unfold impl_ConnTake.f at H
 clear h
 replace H:=Option.bind_eq_some_iff.mp H
 obtain ⟨t1293,A30,H⟩:=H
 try dsimp only at H
 have A3:=aMk A30
 clear A30
 by_cases c4:t1293 = true
 ·subst c4
  have H1:=H
  rw [if_pos rfl] at H1
  clear H
  have H:=H1
  clear H1
  replace H:=Option.bind_eq_some_iff.mp H
  obtain ⟨t1294,A50,H⟩:=H
  try dsimp only at H
  have A5:=aMk A50
  clear A50
  by_cases c6:t1294 = true
  ·subst c6
   have H1:=H
   rw [if_pos rfl] at H1
   clear H
   have H:=H1
   clear H1
   replace H:=Option.bind_eq_some_iff.mp H
   obtain ⟨⟨t1295,t1298,t1299,t1300,t1301,t1302,t1303,t1304,t1305,t1306,t1307,t1308⟩,A70,H⟩:=H
   try dsimp only at H
   have A7:=aMk A70
   clear A70
   simp only [Option.some.injEq,Prod.mk.injEq] at H
   obtain ⟨rfl,rfl,rfl,rfl,rfl,rfl,rfl,rfl,rfl,rfl,rfl,rfl,rfl⟩:=H
   go_enter Try.func58,Try.ntmps58
   go_wp2_with (first|((with_reducible refine gate_dst (N:=2) rfl ?_);refine bxE (N:=2) (cs:=#[.string a0_0,.int .i64 a0_1,.int .i64 a0_2,.int .i64 a0_3,.int .i64 a0_4,.int .i64 a0_5,.int .i64 a0_6,.int .i64 a0_7,.string a0_8,.string a0_9,.bool a0_10]) (t:=34) ?_;intro gb1290 hg w8 hbox hb;have HI1290:=aMk ((show IsS34 w w8 gb1290 a0_0 a0_1 a0_2 a0_3 a0_4 a0_5 a0_6 a0_7 a0_8 a0_9 a0_10 from ⟨hbox,(by rw [hg];exact bSz:w.heap.size≤gb1290)⟩));replace HB:=aMk (bSt hb);clear hb hbox hg)|((with_reducible refine gate_dst (N:=3) rfl ?_);refine bxE (N:=3) (cs:=#[.int .i64 a1_0,.int .i64 a1_1,.int .i64 a1_2,.int .i64 a1_3,.int .i64 a1_4,.int .i64 a1_5,.string a1_6]) (t:=53) ?_;intro gb1291 hg w9 hbox hb;have BK1291:=aMk (hbox);have GW1291:=aMk (bG bW34 hg);have GE1291:=aMk (bG bW34 hg);replace HB:=aMk (below_step bW34 hb);have NB1290_1291:=aMk ((by rw [hg];exact Nat.ne_of_lt (IsS34.lt (show IsS34 w _ gb1290 a0_0 a0_1 a0_2 a0_3 a0_4 a0_5 a0_6 a0_7 a0_8 a0_9 a0_10 from iQ34 HI1290.out)):gb1290 ≠ gb1291));have NB1291_1290:=aMk ((by rw [hg];exact Nat.ne_of_gt (IsS34.lt (show IsS34 w _ gb1290 a0_0 a0_1 a0_2 a0_3 a0_4 a0_5 a0_6 a0_7 a0_8 a0_9 a0_10 from iQ34 HI1290.out)):gb1291 ≠ gb1290));replace HI1290:=aMk (IsS34.below (iQ34 HI1290.out) hb);clear hb hbox hg)|((with_reducible refine gate_dst (N:=4) rfl ?_);refine bxE (N:=4) (cs:=#[.string (⟨#[]⟩:ByteArray),.int .i64 0,.int .i64 0,.int .i64 0,.int .i64 0,.int .i64 0,.int .i64 0,.int .i64 0,.string (⟨#[]⟩:ByteArray),.string (⟨#[]⟩:ByteArray),.bool false]) (t:=34) ?_;intro gb1292 hg w10 hbox hb;have BK1292:=aMk (hbox);have GW1292:=aMk (bG bW34 hg);have GE1292:=aMk (bG bW34 hg);replace HB:=aMk (below_step bW34 hb);have NB1291_1292:=aMk ((bkL BK1291.out hg:gb1291 ≠ gb1292));have NB1292_1291:=aMk ((bkG BK1291.out hg:gb1292 ≠ gb1291));replace BK1291:=aMk (bkB BK1291.out hb);have NB1290_1292:=aMk ((by rw [hg];exact Nat.ne_of_lt (IsS34.lt (show IsS34 w _ gb1290 a0_0 a0_1 a0_2 a0_3 a0_4 a0_5 a0_6 a0_7 a0_8 a0_9 a0_10 from by repeat (first|(with_reducible first|exact HI1290.out|apply IsS34.alloc|apply IsS34.drewN|apply IsS34.drew|apply IsS34.set_0|apply IsS34.set_1|apply IsS34.set_2|apply IsS34.set_3|apply IsS34.set_4|apply IsS34.set_5|apply IsS34.set_6|apply IsS34.set_7|apply IsS34.set_8|apply IsS34.set_9|apply IsS34.set_10|refine IsS34.far ?_ NB1290_1291.out _)|exact HI1290.out))):gb1290 ≠ gb1292));have NB1292_1290:=aMk ((by rw [hg];exact Nat.ne_of_gt (IsS34.lt (show IsS34 w _ gb1290 a0_0 a0_1 a0_2 a0_3 a0_4 a0_5 a0_6 a0_7 a0_8 a0_9 a0_10 from by repeat (first|(with_reducible first|exact HI1290.out|apply IsS34.alloc|apply IsS34.drewN|apply IsS34.drew|apply IsS34.set_0|apply IsS34.set_1|apply IsS34.set_2|apply IsS34.set_3|apply IsS34.set_4|apply IsS34.set_5|apply IsS34.set_6|apply IsS34.set_7|apply IsS34.set_8|apply IsS34.set_9|apply IsS34.set_10|refine IsS34.far ?_ NB1290_1291.out _)|exact HI1290.out))):gb1292 ≠ gb1290));replace HI1290:=aMk (IsS34.below (by repeat (first|(with_reducible first|exact HI1290.out|apply IsS34.alloc|apply IsS34.drewN|apply IsS34.drew|apply IsS34.set_0|apply IsS34.set_1|apply IsS34.set_2|apply IsS34.set_3|apply IsS34.set_4|apply IsS34.set_5|apply IsS34.set_6|apply IsS34.set_7|apply IsS34.set_8|apply IsS34.set_9|apply IsS34.set_10|refine IsS34.far ?_ NB1290_1291.out _)|exact HI1290.out)) hb);clear hb hbox hg;obtain ⟨HGz11,hgz11⟩:=HI1290.out;have Z11_0:=cellS34_0 HGz11;have Z11_1:=cellS34_1 HGz11;have Z11_2:=cellS34_2 HGz11;have Z11_3:=cellS34_3 HGz11;have Z11_4:=cellS34_4 HGz11;have Z11_5:=cellS34_5 HGz11;have Z11_6:=cellS34_6 HGz11;have Z11_7:=cellS34_7 HGz11;have Z11_8:=cellS34_8 HGz11;have Z11_9:=cellS34_9 HGz11;have Z11_10:=cellS34_10 HGz11;have Y11_0:=bFr HGz11 0;have Y11_1:=bFr HGz11 1;have Y11_2:=bFr HGz11 2;have Y11_3:=bFr HGz11 3;have Y11_4:=bFr HGz11 4;have Y11_5:=bFr HGz11 5;have Y11_6:=bFr HGz11 6;have Y11_7:=bFr HGz11 7;have Y11_8:=bFr HGz11 8;have Y11_9:=bFr HGz11 9;have Y11_10:=bFr HGz11 10;clear HGz11 hgz11)|((with_reducible refine gate_callee (f:=25) rfl ?_);refine gLs 9 Try.func25 #[.agg #[.string a0_0,.int .i64 a0_1,.int .i64 a0_2,.int .i64 a0_3,.int .i64 a0_4,.int .i64 a0_5,.int .i64 a0_6,.int .i64 a0_7,.string a0_8,.string a0_9,.bool a0_10]] ?_;(with_reducible refine (impl_ConnOK.calls k a0_0 a0_1 a0_2 a0_3 a0_4 a0_5 a0_6 a0_7 a0_8 a0_9 a0_10 true _ A3.out).mono ?_);rintro e w12 ⟨rfl,hb⟩;refine ⟨_,rfl,?_⟩;replace HI1290:=aMk (IsS34.below (by repeat (first|(with_reducible first|exact HI1290.out|apply IsS34.alloc|apply IsS34.drewN|apply IsS34.drew|apply IsS34.set_0|apply IsS34.set_1|apply IsS34.set_2|apply IsS34.set_3|apply IsS34.set_4|apply IsS34.set_5|apply IsS34.set_6|apply IsS34.set_7|apply IsS34.set_8|apply IsS34.set_9|apply IsS34.set_10|refine IsS34.far ?_ NB1290_1291.out _|refine IsS34.far ?_ NB1290_1292.out _)|exact HI1290.out)) hb);replace BK1291:=aMk (bkB BK1291.out hb);replace BK1292:=aMk (bkB BK1292.out hb);replace HB:=aMk (below_step bW34 hb);have hnb13:=NB1291_1292.out;have hnc13:=NB1292_1291.out;have hnb14:=NB1291_1290.out;have hnc14:=NB1290_1291.out;obtain ⟨Z15_0,Z15_1,Z15_2,Z15_3,Z15_4,Z15_5,Z15_6,Y15_0,Y15_1,Y15_2,Y15_3,Y15_4,Y15_5,Y15_6⟩:=bC7 BK1291.out)|(go_at_call 84;(with_reducible refine (impl_segmentOK.calls a1_0 a1_1 a1_2 a1_3 a1_4 a1_5 a1_6 true _ A5.out).mono ?_);rintro e w16 ⟨rfl,hb⟩;replace HI1290:=aMk (IsS34.below (by repeat (first|(with_reducible first|exact HI1290.out|apply IsS34.alloc|apply IsS34.drewN|apply IsS34.drew|apply IsS34.set_0|apply IsS34.set_1|apply IsS34.set_2|apply IsS34.set_3|apply IsS34.set_4|apply IsS34.set_5|apply IsS34.set_6|apply IsS34.set_7|apply IsS34.set_8|apply IsS34.set_9|apply IsS34.set_10|refine IsS34.far ?_ NB1290_1291.out _|refine IsS34.far ?_ NB1290_1292.out _)|exact HI1290.out)) hb);replace BK1291:=aMk (bkB BK1291.out hb);replace BK1292:=aMk (bkB BK1292.out hb);replace HB:=aMk (below_step bW34 hb);obtain ⟨Z17_0,Z17_1,Z17_2,Z17_3,Z17_4,Z17_5,Z17_6,Y17_0,Y17_1,Y17_2,Y17_3,Y17_4,Y17_5,Y17_6⟩:=bC7 BK1291.out)|((with_reducible refine gate_callee (f:=104) rfl ?_);refine gLs 18 Try.func104 #[.pointer (some ⟨gb1290,0,none⟩),.agg #[.int .i64 a1_0,.int .i64 a1_1,.int .i64 a1_2,.int .i64 a1_3,.int .i64 a1_4,.int .i64 a1_5,.string a1_6]] ?_;(with_reducible refine (impl_Conn_take.calls k gb1290 a0_0 a0_1 a0_2 a0_3 a0_4 a0_5 a0_6 a0_7 a0_8 a0_9 a0_10 a1_0 a1_1 a1_2 a1_3 a1_4 a1_5 a1_6 t1295 t1298 t1299 t1300 t1301 t1302 t1303 t1304 t1305 t1306 t1307 t1308 w _ ?side1 ?side2 A7.out).mono ?_);(case side1 => repeat (first|(with_reducible first|exact HI1290.out|apply IsS34.alloc|apply IsS34.drewN|apply IsS34.drew|apply IsS34.set_0|apply IsS34.set_1|apply IsS34.set_2|apply IsS34.set_3|apply IsS34.set_4|apply IsS34.set_5|apply IsS34.set_6|apply IsS34.set_7|apply IsS34.set_8|apply IsS34.set_9|apply IsS34.set_10|refine IsS34.far ?_ NB1290_1291.out _|refine IsS34.far ?_ NB1290_1292.out _)|exact HI1290.out));(case side2 => repeat (first|(with_reducible first|exact HB.out|apply bwA|apply bwN|apply bw1|refine below_set ?_ (IsS34.ge HI1290.out)|refine below_set ?_ GE1291.out|refine below_set ?_ GE1292.out)|exact HB.out));rintro e w18 ⟨v1296,rfl,ho0,hi,hb,hk⟩;refine ⟨_,rfl,?_⟩;replace BK1292:=aMk (KeepBut.blk hk (g':=gb1292) (o:=.cells #[.string (⟨#[]⟩:ByteArray),.int .i64 0,.int .i64 0,.int .i64 0,.int .i64 0,.int .i64 0,.int .i64 0,.int .i64 0,.string (⟨#[]⟩:ByteArray),.string (⟨#[]⟩:ByteArray),.bool false] 34 (0,0)) (pB BK1292.out) NB1292_1290.out (by simp));have HO1297:=aMk (Kd.R_lower (Kd.R_newB ho0 (g:=gb1291) (o:=.cells #[.int .i64 a1_0,.int .i64 a1_1,.int .i64 a1_2,.int .i64 a1_3,.int .i64 a1_4,.int .i64 a1_5,.string a1_6] 53 (0,0)) (pB BK1291.out)) (below_size bW34));replace BK1291:=aMk (KeepBut.blk hk (g':=gb1291) (o:=.cells #[.int .i64 a1_0,.int .i64 a1_1,.int .i64 a1_2,.int .i64 a1_3,.int .i64 a1_4,.int .i64 a1_5,.string a1_6] 53 (0,0)) (pB BK1291.out) NB1291_1290.out (by simp));replace HB:=aMk (hb);replace HI1290:=aMk (hi);(try clear ho0);obtain ⟨HGz19,hgz19⟩:=HI1290.out;have Z19_0:=cellS34_0 HGz19;have Z19_1:=cellS34_1 HGz19;have Z19_2:=cellS34_2 HGz19;have Z19_3:=cellS34_3 HGz19;have Z19_4:=cellS34_4 HGz19;have Z19_5:=cellS34_5 HGz19;have Z19_6:=cellS34_6 HGz19;have Z19_7:=cellS34_7 HGz19;have Z19_8:=cellS34_8 HGz19;have Z19_9:=cellS34_9 HGz19;have Z19_10:=cellS34_10 HGz19;have Y19_0:=bFr HGz19 0;have Y19_1:=bFr HGz19 1;have Y19_2:=bFr HGz19 2;have Y19_3:=bFr HGz19 3;have Y19_4:=bFr HGz19 4;have Y19_5:=bFr HGz19 5;have Y19_6:=bFr HGz19 6;have Y19_7:=bFr HGz19 7;have Y19_8:=bFr HGz19 8;have Y19_9:=bFr HGz19 9;have Y19_10:=bFr HGz19 10;clear HGz19 hgz19;have hnb20:=NB1292_1290.out;have hnc20:=NB1290_1292.out;obtain ⟨Z21_0,Z21_1,Z21_2,Z21_3,Z21_4,Z21_5,Z21_6,Z21_7,Z21_8,Z21_9,Z21_10,Y21_0,Y21_1,Y21_2,Y21_3,Y21_4,Y21_5,Y21_6,Y21_7,Y21_8,Y21_9,Y21_10⟩:=bC11 BK1292.out))
   refine bodyPost_ret (results_ctt rfl _ _ gb1292 34 #[.string t1298,.int .i64 t1299,.int .i64 t1300,.int .i64 t1301,.int .i64 t1302,.int .i64 t1303,.int .i64 t1304,.int .i64 t1305,.string t1306,.string t1307,.bool t1308] (0,0) _ rfl (by refine pB ?_;refine blk_put (cs:=#[.string t1298,.int .i64 t1299,.int .i64 t1300,.int .i64 t1301,.int .i64 t1302,.int .i64 t1303,.int .i64 t1304,.int .i64 t1305,.string t1306,.string t1307,.bool false]) ?_ 10 _ rfl;refine pB ?_;refine blk_put (cs:=#[.string t1298,.int .i64 t1299,.int .i64 t1300,.int .i64 t1301,.int .i64 t1302,.int .i64 t1303,.int .i64 t1304,.int .i64 t1305,.string t1306,.string (⟨#[]⟩:ByteArray),.bool false]) ?_ 9 _ rfl;refine pB ?_;refine blk_put (cs:=#[.string t1298,.int .i64 t1299,.int .i64 t1300,.int .i64 t1301,.int .i64 t1302,.int .i64 t1303,.int .i64 t1304,.int .i64 t1305,.string (⟨#[]⟩:ByteArray),.string (⟨#[]⟩:ByteArray),.bool false]) ?_ 8 _ rfl;refine pB ?_;refine blk_put (cs:=#[.string t1298,.int .i64 t1299,.int .i64 t1300,.int .i64 t1301,.int .i64 t1302,.int .i64 t1303,.int .i64 t1304,.int .i64 0,.string (⟨#[]⟩:ByteArray),.string (⟨#[]⟩:ByteArray),.bool false]) ?_ 7 _ rfl;refine pB ?_;refine blk_put (cs:=#[.string t1298,.int .i64 t1299,.int .i64 t1300,.int .i64 t1301,.int .i64 t1302,.int .i64 t1303,.int .i64 0,.int .i64 0,.string (⟨#[]⟩:ByteArray),.string (⟨#[]⟩:ByteArray),.bool false]) ?_ 6 _ rfl;refine pB ?_;refine blk_put (cs:=#[.string t1298,.int .i64 t1299,.int .i64 t1300,.int .i64 t1301,.int .i64 t1302,.int .i64 0,.int .i64 0,.int .i64 0,.string (⟨#[]⟩:ByteArray),.string (⟨#[]⟩:ByteArray),.bool false]) ?_ 5 _ rfl;refine pB ?_;refine blk_put (cs:=#[.string t1298,.int .i64 t1299,.int .i64 t1300,.int .i64 t1301,.int .i64 0,.int .i64 0,.int .i64 0,.int .i64 0,.string (⟨#[]⟩:ByteArray),.string (⟨#[]⟩:ByteArray),.bool false]) ?_ 4 _ rfl;refine pB ?_;refine blk_put (cs:=#[.string t1298,.int .i64 t1299,.int .i64 t1300,.int .i64 0,.int .i64 0,.int .i64 0,.int .i64 0,.int .i64 0,.string (⟨#[]⟩:ByteArray),.string (⟨#[]⟩:ByteArray),.bool false]) ?_ 3 _ rfl;refine pB ?_;refine blk_put (cs:=#[.string t1298,.int .i64 t1299,.int .i64 0,.int .i64 0,.int .i64 0,.int .i64 0,.int .i64 0,.int .i64 0,.string (⟨#[]⟩:ByteArray),.string (⟨#[]⟩:ByteArray),.bool false]) ?_ 2 _ rfl;refine pB ?_;refine blk_put (cs:=#[.string t1298,.int .i64 0,.int .i64 0,.int .i64 0,.int .i64 0,.int .i64 0,.int .i64 0,.int .i64 0,.string (⟨#[]⟩:ByteArray),.string (⟨#[]⟩:ByteArray),.bool false]) ?_ 1 _ rfl;refine pB ?_;refine blk_put (cs:=#[.string (⟨#[]⟩:ByteArray),.int .i64 0,.int .i64 0,.int .i64 0,.int .i64 0,.int .i64 0,.int .i64 0,.int .i64 0,.string (⟨#[]⟩:ByteArray),.string (⟨#[]⟩:ByteArray),.bool false]) ?_ 0 _ rfl;refine pB ?_;exact BK1292.out) Try.underlying34 rfl (by kernel_rfl)) rfl ?_
   exact ⟨_,eRf,kR (Kd.R_mono (Kd.R_far (p:=⟨gb1292,10,none⟩) (Kd.R_far (p:=⟨gb1292,9,none⟩) (Kd.R_far (p:=⟨gb1292,8,none⟩) (Kd.R_far (p:=⟨gb1292,7,none⟩) (Kd.R_far (p:=⟨gb1292,6,none⟩) (Kd.R_far (p:=⟨gb1292,5,none⟩) (Kd.R_far (p:=⟨gb1292,4,none⟩) (Kd.R_far (p:=⟨gb1292,3,none⟩) (Kd.R_far (p:=⟨gb1292,2,none⟩) (Kd.R_far (p:=⟨gb1292,1,none⟩) (Kd.R_far (p:=⟨gb1292,0,none⟩) (Kd.R_types HO1297.out BK1292.out (by decide)) (fun _ hk => hk.2) (.string t1298)) (fun _ hk => hk.2) (.int .i64 t1299)) (fun _ hk => hk.2) (.int .i64 t1300)) (fun _ hk => hk.2) (.int .i64 t1301)) (fun _ hk => hk.2) (.int .i64 t1302)) (fun _ hk => hk.2) (.int .i64 t1303)) (fun _ hk => hk.2) (.int .i64 t1304)) (fun _ hk => hk.2) (.int .i64 t1305)) (fun _ hk => hk.2) (.string t1306)) (fun _ hk => hk.2) (.string t1307)) (fun _ hk => hk.2) (.bool t1308)) (fun _ hk => trivial)),bW34⟩
  ·replace c6:=Bool.eq_false_iff.mpr c6
   subst c6
   have H1:=H
   rw [if_neg (show ¬ (false = true) by decide)] at H1
   clear H
   have H:=H1
   clear H1
   simp only [Option.some.injEq,Prod.mk.injEq] at H
   obtain ⟨rfl,rfl,rfl,rfl,rfl,rfl,rfl,rfl,rfl,rfl,rfl,rfl,rfl⟩:=H
   go_enter Try.func58,Try.ntmps58
   go_wp2_with (first|((with_reducible refine gate_dst (N:=2) rfl ?_);refine bxE (N:=2) (cs:=#[.string a0_0,.int .i64 a0_1,.int .i64 a0_2,.int .i64 a0_3,.int .i64 a0_4,.int .i64 a0_5,.int .i64 a0_6,.int .i64 a0_7,.string a0_8,.string a0_9,.bool a0_10]) (t:=34) ?_;intro gb1290 hg w22 hbox hb;have HI1290:=aMk ((show IsS34 w w22 gb1290 a0_0 a0_1 a0_2 a0_3 a0_4 a0_5 a0_6 a0_7 a0_8 a0_9 a0_10 from ⟨hbox,(by rw [hg];exact bSz:w.heap.size≤gb1290)⟩));replace HB:=aMk (bSt hb);clear hb hbox hg)|((with_reducible refine gate_dst (N:=3) rfl ?_);refine bxE (N:=3) (cs:=#[.int .i64 a1_0,.int .i64 a1_1,.int .i64 a1_2,.int .i64 a1_3,.int .i64 a1_4,.int .i64 a1_5,.string a1_6]) (t:=53) ?_;intro gb1291 hg w23 hbox hb;have BK1291:=aMk (hbox);have GW1291:=aMk (bG bW34 hg);have GE1291:=aMk (bG bW34 hg);replace HB:=aMk (below_step bW34 hb);have NB1290_1291:=aMk ((by rw [hg];exact Nat.ne_of_lt (IsS34.lt (show IsS34 w _ gb1290 a0_0 a0_1 a0_2 a0_3 a0_4 a0_5 a0_6 a0_7 a0_8 a0_9 a0_10 from iQ34 HI1290.out)):gb1290 ≠ gb1291));have NB1291_1290:=aMk ((by rw [hg];exact Nat.ne_of_gt (IsS34.lt (show IsS34 w _ gb1290 a0_0 a0_1 a0_2 a0_3 a0_4 a0_5 a0_6 a0_7 a0_8 a0_9 a0_10 from iQ34 HI1290.out)):gb1291 ≠ gb1290));replace HI1290:=aMk (IsS34.below (iQ34 HI1290.out) hb);clear hb hbox hg)|((with_reducible refine gate_dst (N:=4) rfl ?_);refine bxE (N:=4) (cs:=#[.string (⟨#[]⟩:ByteArray),.int .i64 0,.int .i64 0,.int .i64 0,.int .i64 0,.int .i64 0,.int .i64 0,.int .i64 0,.string (⟨#[]⟩:ByteArray),.string (⟨#[]⟩:ByteArray),.bool false]) (t:=34) ?_;intro gb1292 hg w24 hbox hb;have BK1292:=aMk (hbox);have GW1292:=aMk (bG bW34 hg);have GE1292:=aMk (bG bW34 hg);replace HB:=aMk (below_step bW34 hb);have NB1291_1292:=aMk ((bkL BK1291.out hg:gb1291 ≠ gb1292));have NB1292_1291:=aMk ((bkG BK1291.out hg:gb1292 ≠ gb1291));replace BK1291:=aMk (bkB BK1291.out hb);have NB1290_1292:=aMk ((by rw [hg];exact Nat.ne_of_lt (IsS34.lt (show IsS34 w _ gb1290 a0_0 a0_1 a0_2 a0_3 a0_4 a0_5 a0_6 a0_7 a0_8 a0_9 a0_10 from by repeat (first|(with_reducible first|exact HI1290.out|apply IsS34.alloc|apply IsS34.drewN|apply IsS34.drew|apply IsS34.set_0|apply IsS34.set_1|apply IsS34.set_2|apply IsS34.set_3|apply IsS34.set_4|apply IsS34.set_5|apply IsS34.set_6|apply IsS34.set_7|apply IsS34.set_8|apply IsS34.set_9|apply IsS34.set_10|refine IsS34.far ?_ NB1290_1291.out _)|exact HI1290.out))):gb1290 ≠ gb1292));have NB1292_1290:=aMk ((by rw [hg];exact Nat.ne_of_gt (IsS34.lt (show IsS34 w _ gb1290 a0_0 a0_1 a0_2 a0_3 a0_4 a0_5 a0_6 a0_7 a0_8 a0_9 a0_10 from by repeat (first|(with_reducible first|exact HI1290.out|apply IsS34.alloc|apply IsS34.drewN|apply IsS34.drew|apply IsS34.set_0|apply IsS34.set_1|apply IsS34.set_2|apply IsS34.set_3|apply IsS34.set_4|apply IsS34.set_5|apply IsS34.set_6|apply IsS34.set_7|apply IsS34.set_8|apply IsS34.set_9|apply IsS34.set_10|refine IsS34.far ?_ NB1290_1291.out _)|exact HI1290.out))):gb1292 ≠ gb1290));replace HI1290:=aMk (IsS34.below (by repeat (first|(with_reducible first|exact HI1290.out|apply IsS34.alloc|apply IsS34.drewN|apply IsS34.drew|apply IsS34.set_0|apply IsS34.set_1|apply IsS34.set_2|apply IsS34.set_3|apply IsS34.set_4|apply IsS34.set_5|apply IsS34.set_6|apply IsS34.set_7|apply IsS34.set_8|apply IsS34.set_9|apply IsS34.set_10|refine IsS34.far ?_ NB1290_1291.out _)|exact HI1290.out)) hb);clear hb hbox hg;obtain ⟨HGz25,hgz25⟩:=HI1290.out;have Z25_0:=cellS34_0 HGz25;have Z25_1:=cellS34_1 HGz25;have Z25_2:=cellS34_2 HGz25;have Z25_3:=cellS34_3 HGz25;have Z25_4:=cellS34_4 HGz25;have Z25_5:=cellS34_5 HGz25;have Z25_6:=cellS34_6 HGz25;have Z25_7:=cellS34_7 HGz25;have Z25_8:=cellS34_8 HGz25;have Z25_9:=cellS34_9 HGz25;have Z25_10:=cellS34_10 HGz25;have Y25_0:=bFr HGz25 0;have Y25_1:=bFr HGz25 1;have Y25_2:=bFr HGz25 2;have Y25_3:=bFr HGz25 3;have Y25_4:=bFr HGz25 4;have Y25_5:=bFr HGz25 5;have Y25_6:=bFr HGz25 6;have Y25_7:=bFr HGz25 7;have Y25_8:=bFr HGz25 8;have Y25_9:=bFr HGz25 9;have Y25_10:=bFr HGz25 10;clear HGz25 hgz25)|((with_reducible refine gate_callee (f:=25) rfl ?_);refine gLs 9 Try.func25 #[.agg #[.string a0_0,.int .i64 a0_1,.int .i64 a0_2,.int .i64 a0_3,.int .i64 a0_4,.int .i64 a0_5,.int .i64 a0_6,.int .i64 a0_7,.string a0_8,.string a0_9,.bool a0_10]] ?_;(with_reducible refine (impl_ConnOK.calls k a0_0 a0_1 a0_2 a0_3 a0_4 a0_5 a0_6 a0_7 a0_8 a0_9 a0_10 true _ A3.out).mono ?_);rintro e w26 ⟨rfl,hb⟩;refine ⟨_,rfl,?_⟩;replace HI1290:=aMk (IsS34.below (by repeat (first|(with_reducible first|exact HI1290.out|apply IsS34.alloc|apply IsS34.drewN|apply IsS34.drew|apply IsS34.set_0|apply IsS34.set_1|apply IsS34.set_2|apply IsS34.set_3|apply IsS34.set_4|apply IsS34.set_5|apply IsS34.set_6|apply IsS34.set_7|apply IsS34.set_8|apply IsS34.set_9|apply IsS34.set_10|refine IsS34.far ?_ NB1290_1291.out _|refine IsS34.far ?_ NB1290_1292.out _)|exact HI1290.out)) hb);replace BK1291:=aMk (bkB BK1291.out hb);replace BK1292:=aMk (bkB BK1292.out hb);replace HB:=aMk (below_step bW34 hb);have hnb27:=NB1291_1292.out;have hnc27:=NB1292_1291.out;have hnb28:=NB1291_1290.out;have hnc28:=NB1290_1291.out;obtain ⟨Z29_0,Z29_1,Z29_2,Z29_3,Z29_4,Z29_5,Z29_6,Y29_0,Y29_1,Y29_2,Y29_3,Y29_4,Y29_5,Y29_6⟩:=bC7 BK1291.out)|(go_at_call 84;(with_reducible refine (impl_segmentOK.calls a1_0 a1_1 a1_2 a1_3 a1_4 a1_5 a1_6 false _ A5.out).mono ?_);rintro e w30 ⟨rfl,hb⟩;replace HI1290:=aMk (IsS34.below (by repeat (first|(with_reducible first|exact HI1290.out|apply IsS34.alloc|apply IsS34.drewN|apply IsS34.drew|apply IsS34.set_0|apply IsS34.set_1|apply IsS34.set_2|apply IsS34.set_3|apply IsS34.set_4|apply IsS34.set_5|apply IsS34.set_6|apply IsS34.set_7|apply IsS34.set_8|apply IsS34.set_9|apply IsS34.set_10|refine IsS34.far ?_ NB1290_1291.out _|refine IsS34.far ?_ NB1290_1292.out _)|exact HI1290.out)) hb);replace BK1291:=aMk (bkB BK1291.out hb);replace BK1292:=aMk (bkB BK1292.out hb);replace HB:=aMk (below_step bW34 hb);have hnb31:=NB1292_1290.out;have hnc31:=NB1290_1292.out;obtain ⟨Z32_0,Z32_1,Z32_2,Z32_3,Z32_4,Z32_5,Z32_6,Z32_7,Z32_8,Z32_9,Z32_10,Y32_0,Y32_1,Y32_2,Y32_3,Y32_4,Y32_5,Y32_6,Y32_7,Y32_8,Y32_9,Y32_10⟩:=bC11 BK1292.out))
   refine bodyPost_ret (results_ctt rfl _ _ gb1292 34 #[.string (⟨#[]⟩:ByteArray),.int .i64 0,.int .i64 0,.int .i64 0,.int .i64 0,.int .i64 0,.int .i64 0,.int .i64 0,.string (⟨#[]⟩:ByteArray),.string (⟨#[]⟩:ByteArray),.bool false] (0,0) _ rfl (by refine pB ?_;refine blk_put (cs:=#[.string (⟨#[]⟩:ByteArray),.int .i64 0,.int .i64 0,.int .i64 0,.int .i64 0,.int .i64 0,.int .i64 0,.int .i64 0,.string (⟨#[]⟩:ByteArray),.string (⟨#[]⟩:ByteArray),.bool false]) ?_ 10 _ rfl;refine pB ?_;refine blk_put (cs:=#[.string (⟨#[]⟩:ByteArray),.int .i64 0,.int .i64 0,.int .i64 0,.int .i64 0,.int .i64 0,.int .i64 0,.int .i64 0,.string (⟨#[]⟩:ByteArray),.string (⟨#[]⟩:ByteArray),.bool false]) ?_ 9 _ rfl;refine pB ?_;refine blk_put (cs:=#[.string (⟨#[]⟩:ByteArray),.int .i64 0,.int .i64 0,.int .i64 0,.int .i64 0,.int .i64 0,.int .i64 0,.int .i64 0,.string (⟨#[]⟩:ByteArray),.string (⟨#[]⟩:ByteArray),.bool false]) ?_ 8 _ rfl;refine pB ?_;refine blk_put (cs:=#[.string (⟨#[]⟩:ByteArray),.int .i64 0,.int .i64 0,.int .i64 0,.int .i64 0,.int .i64 0,.int .i64 0,.int .i64 0,.string (⟨#[]⟩:ByteArray),.string (⟨#[]⟩:ByteArray),.bool false]) ?_ 7 _ rfl;refine pB ?_;refine blk_put (cs:=#[.string (⟨#[]⟩:ByteArray),.int .i64 0,.int .i64 0,.int .i64 0,.int .i64 0,.int .i64 0,.int .i64 0,.int .i64 0,.string (⟨#[]⟩:ByteArray),.string (⟨#[]⟩:ByteArray),.bool false]) ?_ 6 _ rfl;refine pB ?_;refine blk_put (cs:=#[.string (⟨#[]⟩:ByteArray),.int .i64 0,.int .i64 0,.int .i64 0,.int .i64 0,.int .i64 0,.int .i64 0,.int .i64 0,.string (⟨#[]⟩:ByteArray),.string (⟨#[]⟩:ByteArray),.bool false]) ?_ 5 _ rfl;refine pB ?_;refine blk_put (cs:=#[.string (⟨#[]⟩:ByteArray),.int .i64 0,.int .i64 0,.int .i64 0,.int .i64 0,.int .i64 0,.int .i64 0,.int .i64 0,.string (⟨#[]⟩:ByteArray),.string (⟨#[]⟩:ByteArray),.bool false]) ?_ 4 _ rfl;refine pB ?_;refine blk_put (cs:=#[.string (⟨#[]⟩:ByteArray),.int .i64 0,.int .i64 0,.int .i64 0,.int .i64 0,.int .i64 0,.int .i64 0,.int .i64 0,.string (⟨#[]⟩:ByteArray),.string (⟨#[]⟩:ByteArray),.bool false]) ?_ 3 _ rfl;refine pB ?_;refine blk_put (cs:=#[.string (⟨#[]⟩:ByteArray),.int .i64 0,.int .i64 0,.int .i64 0,.int .i64 0,.int .i64 0,.int .i64 0,.int .i64 0,.string (⟨#[]⟩:ByteArray),.string (⟨#[]⟩:ByteArray),.bool false]) ?_ 2 _ rfl;refine pB ?_;refine blk_put (cs:=#[.string (⟨#[]⟩:ByteArray),.int .i64 0,.int .i64 0,.int .i64 0,.int .i64 0,.int .i64 0,.int .i64 0,.int .i64 0,.string (⟨#[]⟩:ByteArray),.string (⟨#[]⟩:ByteArray),.bool false]) ?_ 1 _ rfl;refine pB ?_;refine blk_put (cs:=#[.string (⟨#[]⟩:ByteArray),.int .i64 0,.int .i64 0,.int .i64 0,.int .i64 0,.int .i64 0,.int .i64 0,.int .i64 0,.string (⟨#[]⟩:ByteArray),.string (⟨#[]⟩:ByteArray),.bool false]) ?_ 0 _ rfl;refine pB ?_;exact BK1292.out) Try.underlying34 rfl (by kernel_rfl)) rfl ?_
   exact ⟨_,eRf,by first|exact Kd.R_nil _ _ _ _ _|exact Kd.N_nil _ _ _ _ _|exact Kd.V_nil _ _ _ _ _|exact Kd.Q_nil _ _ _ _ _|exact Kd.S_nil _ _ _ _ _,bW34⟩
 ·replace c4:=Bool.eq_false_iff.mpr c4
  subst c4
  have H1:=H
  rw [if_neg (show ¬ (false = true) by decide)] at H1
  clear H
  have H:=H1
  clear H1
  simp only [Option.some.injEq,Prod.mk.injEq] at H
  obtain ⟨rfl,rfl,rfl,rfl,rfl,rfl,rfl,rfl,rfl,rfl,rfl,rfl,rfl⟩:=H
  go_enter Try.func58,Try.ntmps58
  go_wp2_with (first|((with_reducible refine gate_dst (N:=2) rfl ?_);refine bxE (N:=2) (cs:=#[.string a0_0,.int .i64 a0_1,.int .i64 a0_2,.int .i64 a0_3,.int .i64 a0_4,.int .i64 a0_5,.int .i64 a0_6,.int .i64 a0_7,.string a0_8,.string a0_9,.bool a0_10]) (t:=34) ?_;intro gb1290 hg w33 hbox hb;have HI1290:=aMk ((show IsS34 w w33 gb1290 a0_0 a0_1 a0_2 a0_3 a0_4 a0_5 a0_6 a0_7 a0_8 a0_9 a0_10 from ⟨hbox,(by rw [hg];exact bSz:w.heap.size≤gb1290)⟩));replace HB:=aMk (bSt hb);clear hb hbox hg)|((with_reducible refine gate_dst (N:=3) rfl ?_);refine bxE (N:=3) (cs:=#[.int .i64 a1_0,.int .i64 a1_1,.int .i64 a1_2,.int .i64 a1_3,.int .i64 a1_4,.int .i64 a1_5,.string a1_6]) (t:=53) ?_;intro gb1291 hg w34 hbox hb;have BK1291:=aMk (hbox);have GW1291:=aMk (bG bW34 hg);have GE1291:=aMk (bG bW34 hg);replace HB:=aMk (below_step bW34 hb);have NB1290_1291:=aMk ((by rw [hg];exact Nat.ne_of_lt (IsS34.lt (show IsS34 w _ gb1290 a0_0 a0_1 a0_2 a0_3 a0_4 a0_5 a0_6 a0_7 a0_8 a0_9 a0_10 from iQ34 HI1290.out)):gb1290 ≠ gb1291));have NB1291_1290:=aMk ((by rw [hg];exact Nat.ne_of_gt (IsS34.lt (show IsS34 w _ gb1290 a0_0 a0_1 a0_2 a0_3 a0_4 a0_5 a0_6 a0_7 a0_8 a0_9 a0_10 from iQ34 HI1290.out)):gb1291 ≠ gb1290));replace HI1290:=aMk (IsS34.below (iQ34 HI1290.out) hb);clear hb hbox hg)|((with_reducible refine gate_dst (N:=4) rfl ?_);refine bxE (N:=4) (cs:=#[.string (⟨#[]⟩:ByteArray),.int .i64 0,.int .i64 0,.int .i64 0,.int .i64 0,.int .i64 0,.int .i64 0,.int .i64 0,.string (⟨#[]⟩:ByteArray),.string (⟨#[]⟩:ByteArray),.bool false]) (t:=34) ?_;intro gb1292 hg w35 hbox hb;have BK1292:=aMk (hbox);have GW1292:=aMk (bG bW34 hg);have GE1292:=aMk (bG bW34 hg);replace HB:=aMk (below_step bW34 hb);have NB1291_1292:=aMk ((bkL BK1291.out hg:gb1291 ≠ gb1292));have NB1292_1291:=aMk ((bkG BK1291.out hg:gb1292 ≠ gb1291));replace BK1291:=aMk (bkB BK1291.out hb);have NB1290_1292:=aMk ((by rw [hg];exact Nat.ne_of_lt (IsS34.lt (show IsS34 w _ gb1290 a0_0 a0_1 a0_2 a0_3 a0_4 a0_5 a0_6 a0_7 a0_8 a0_9 a0_10 from by repeat (first|(with_reducible first|exact HI1290.out|apply IsS34.alloc|apply IsS34.drewN|apply IsS34.drew|apply IsS34.set_0|apply IsS34.set_1|apply IsS34.set_2|apply IsS34.set_3|apply IsS34.set_4|apply IsS34.set_5|apply IsS34.set_6|apply IsS34.set_7|apply IsS34.set_8|apply IsS34.set_9|apply IsS34.set_10|refine IsS34.far ?_ NB1290_1291.out _)|exact HI1290.out))):gb1290 ≠ gb1292));have NB1292_1290:=aMk ((by rw [hg];exact Nat.ne_of_gt (IsS34.lt (show IsS34 w _ gb1290 a0_0 a0_1 a0_2 a0_3 a0_4 a0_5 a0_6 a0_7 a0_8 a0_9 a0_10 from by repeat (first|(with_reducible first|exact HI1290.out|apply IsS34.alloc|apply IsS34.drewN|apply IsS34.drew|apply IsS34.set_0|apply IsS34.set_1|apply IsS34.set_2|apply IsS34.set_3|apply IsS34.set_4|apply IsS34.set_5|apply IsS34.set_6|apply IsS34.set_7|apply IsS34.set_8|apply IsS34.set_9|apply IsS34.set_10|refine IsS34.far ?_ NB1290_1291.out _)|exact HI1290.out))):gb1292 ≠ gb1290));replace HI1290:=aMk (IsS34.below (by repeat (first|(with_reducible first|exact HI1290.out|apply IsS34.alloc|apply IsS34.drewN|apply IsS34.drew|apply IsS34.set_0|apply IsS34.set_1|apply IsS34.set_2|apply IsS34.set_3|apply IsS34.set_4|apply IsS34.set_5|apply IsS34.set_6|apply IsS34.set_7|apply IsS34.set_8|apply IsS34.set_9|apply IsS34.set_10|refine IsS34.far ?_ NB1290_1291.out _)|exact HI1290.out)) hb);clear hb hbox hg;obtain ⟨HGz36,hgz36⟩:=HI1290.out;have Z36_0:=cellS34_0 HGz36;have Z36_1:=cellS34_1 HGz36;have Z36_2:=cellS34_2 HGz36;have Z36_3:=cellS34_3 HGz36;have Z36_4:=cellS34_4 HGz36;have Z36_5:=cellS34_5 HGz36;have Z36_6:=cellS34_6 HGz36;have Z36_7:=cellS34_7 HGz36;have Z36_8:=cellS34_8 HGz36;have Z36_9:=cellS34_9 HGz36;have Z36_10:=cellS34_10 HGz36;have Y36_0:=bFr HGz36 0;have Y36_1:=bFr HGz36 1;have Y36_2:=bFr HGz36 2;have Y36_3:=bFr HGz36 3;have Y36_4:=bFr HGz36 4;have Y36_5:=bFr HGz36 5;have Y36_6:=bFr HGz36 6;have Y36_7:=bFr HGz36 7;have Y36_8:=bFr HGz36 8;have Y36_9:=bFr HGz36 9;have Y36_10:=bFr HGz36 10;clear HGz36 hgz36)|((with_reducible refine gate_callee (f:=25) rfl ?_);refine gLs 9 Try.func25 #[.agg #[.string a0_0,.int .i64 a0_1,.int .i64 a0_2,.int .i64 a0_3,.int .i64 a0_4,.int .i64 a0_5,.int .i64 a0_6,.int .i64 a0_7,.string a0_8,.string a0_9,.bool a0_10]] ?_;(with_reducible refine (impl_ConnOK.calls k a0_0 a0_1 a0_2 a0_3 a0_4 a0_5 a0_6 a0_7 a0_8 a0_9 a0_10 false _ A3.out).mono ?_);rintro e w37 ⟨rfl,hb⟩;refine ⟨_,rfl,?_⟩;replace HI1290:=aMk (IsS34.below (by repeat (first|(with_reducible first|exact HI1290.out|apply IsS34.alloc|apply IsS34.drewN|apply IsS34.drew|apply IsS34.set_0|apply IsS34.set_1|apply IsS34.set_2|apply IsS34.set_3|apply IsS34.set_4|apply IsS34.set_5|apply IsS34.set_6|apply IsS34.set_7|apply IsS34.set_8|apply IsS34.set_9|apply IsS34.set_10|refine IsS34.far ?_ NB1290_1291.out _|refine IsS34.far ?_ NB1290_1292.out _)|exact HI1290.out)) hb);replace BK1291:=aMk (bkB BK1291.out hb);replace BK1292:=aMk (bkB BK1292.out hb);replace HB:=aMk (below_step bW34 hb);have hnb38:=NB1292_1291.out;have hnc38:=NB1291_1292.out;have hnb39:=NB1292_1290.out;have hnc39:=NB1290_1292.out;obtain ⟨Z40_0,Z40_1,Z40_2,Z40_3,Z40_4,Z40_5,Z40_6,Z40_7,Z40_8,Z40_9,Z40_10,Y40_0,Y40_1,Y40_2,Y40_3,Y40_4,Y40_5,Y40_6,Y40_7,Y40_8,Y40_9,Y40_10⟩:=bC11 BK1292.out))
  refine bodyPost_ret (results_ctt rfl _ _ gb1292 34 #[.string (⟨#[]⟩:ByteArray),.int .i64 0,.int .i64 0,.int .i64 0,.int .i64 0,.int .i64 0,.int .i64 0,.int .i64 0,.string (⟨#[]⟩:ByteArray),.string (⟨#[]⟩:ByteArray),.bool false] (0,0) _ rfl (by refine pB ?_;refine blk_put (cs:=#[.string (⟨#[]⟩:ByteArray),.int .i64 0,.int .i64 0,.int .i64 0,.int .i64 0,.int .i64 0,.int .i64 0,.int .i64 0,.string (⟨#[]⟩:ByteArray),.string (⟨#[]⟩:ByteArray),.bool false]) ?_ 10 _ rfl;refine pB ?_;refine blk_put (cs:=#[.string (⟨#[]⟩:ByteArray),.int .i64 0,.int .i64 0,.int .i64 0,.int .i64 0,.int .i64 0,.int .i64 0,.int .i64 0,.string (⟨#[]⟩:ByteArray),.string (⟨#[]⟩:ByteArray),.bool false]) ?_ 9 _ rfl;refine pB ?_;refine blk_put (cs:=#[.string (⟨#[]⟩:ByteArray),.int .i64 0,.int .i64 0,.int .i64 0,.int .i64 0,.int .i64 0,.int .i64 0,.int .i64 0,.string (⟨#[]⟩:ByteArray),.string (⟨#[]⟩:ByteArray),.bool false]) ?_ 8 _ rfl;refine pB ?_;refine blk_put (cs:=#[.string (⟨#[]⟩:ByteArray),.int .i64 0,.int .i64 0,.int .i64 0,.int .i64 0,.int .i64 0,.int .i64 0,.int .i64 0,.string (⟨#[]⟩:ByteArray),.string (⟨#[]⟩:ByteArray),.bool false]) ?_ 7 _ rfl;refine pB ?_;refine blk_put (cs:=#[.string (⟨#[]⟩:ByteArray),.int .i64 0,.int .i64 0,.int .i64 0,.int .i64 0,.int .i64 0,.int .i64 0,.int .i64 0,.string (⟨#[]⟩:ByteArray),.string (⟨#[]⟩:ByteArray),.bool false]) ?_ 6 _ rfl;refine pB ?_;refine blk_put (cs:=#[.string (⟨#[]⟩:ByteArray),.int .i64 0,.int .i64 0,.int .i64 0,.int .i64 0,.int .i64 0,.int .i64 0,.int .i64 0,.string (⟨#[]⟩:ByteArray),.string (⟨#[]⟩:ByteArray),.bool false]) ?_ 5 _ rfl;refine pB ?_;refine blk_put (cs:=#[.string (⟨#[]⟩:ByteArray),.int .i64 0,.int .i64 0,.int .i64 0,.int .i64 0,.int .i64 0,.int .i64 0,.int .i64 0,.string (⟨#[]⟩:ByteArray),.string (⟨#[]⟩:ByteArray),.bool false]) ?_ 4 _ rfl;refine pB ?_;refine blk_put (cs:=#[.string (⟨#[]⟩:ByteArray),.int .i64 0,.int .i64 0,.int .i64 0,.int .i64 0,.int .i64 0,.int .i64 0,.int .i64 0,.string (⟨#[]⟩:ByteArray),.string (⟨#[]⟩:ByteArray),.bool false]) ?_ 3 _ rfl;refine pB ?_;refine blk_put (cs:=#[.string (⟨#[]⟩:ByteArray),.int .i64 0,.int .i64 0,.int .i64 0,.int .i64 0,.int .i64 0,.int .i64 0,.int .i64 0,.string (⟨#[]⟩:ByteArray),.string (⟨#[]⟩:ByteArray),.bool false]) ?_ 2 _ rfl;refine pB ?_;refine blk_put (cs:=#[.string (⟨#[]⟩:ByteArray),.int .i64 0,.int .i64 0,.int .i64 0,.int .i64 0,.int .i64 0,.int .i64 0,.int .i64 0,.string (⟨#[]⟩:ByteArray),.string (⟨#[]⟩:ByteArray),.bool false]) ?_ 1 _ rfl;refine pB ?_;refine blk_put (cs:=#[.string (⟨#[]⟩:ByteArray),.int .i64 0,.int .i64 0,.int .i64 0,.int .i64 0,.int .i64 0,.int .i64 0,.int .i64 0,.string (⟨#[]⟩:ByteArray),.string (⟨#[]⟩:ByteArray),.bool false]) ?_ 0 _ rfl;refine pB ?_;exact BK1292.out) Try.underlying34 rfl (by kernel_rfl)) rfl ?_
  exact ⟨_,eRf,by first|exact Kd.R_nil _ _ _ _ _|exact Kd.N_nil _ _ _ _ _|exact Kd.V_nil _ _ _ _ _|exact Kd.Q_nil _ _ _ _ _|exact Kd.S_nil _ _ _ _ _,bW34⟩
end
end Go.Proofs.Ytlpkldomoniegaa.X
