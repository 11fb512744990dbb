/- Texts that the row of FnExactReadRule stands on: functions of the program and of the reference, each as a Lean function with the same answers, and the plain lemmas. Conditions: none beside those that each theorem names. -/
import Derived.Test.YtiemmhhjiplnlaaDoorCFnExactReadRule2
namespace Go.Proofs.YtiemmhhjiplnlaaDoor.X
open Go.RowKit Go.Proofs.YtiemmhhjiplnlaaDoorW.PrintWords Go.Proofs.YtiemmhhjiplnlaaDoorW.PrintLast Go.Proofs.YtiemmhhjiplnlaaDoorW.PrintMore
attribute [local go_sem] max2_int min2_int max_two min_two max_three min_three max_four min_four   -- for this text's walks alone
set_option linter.unusedVariables false
set_option linter.unusedSimpArgs false
open Go.Proofs.YtiemmhhjiplnlaaDoorW.PrintWords renaming blk_drewN -> bDn
open Go.Proofs.YtiemmhhjiplnlaaDoorW.PrintWords renaming blk_drew -> bDr
open Go.Proofs.YtiemmhhjiplnlaaDoorW.PrintWords renaming blk_alloc -> bAl
open Go.Proofs.YtiemmhhjiplnlaaDoorW.PrintWords renaming blk_frozen -> bFr
open Go.Proofs.YtiemmhhjiplnlaaDoorW.PrintWords renaming blk_cell -> bCe
open Go.Proofs.YtiemmhhjiplnlaaDoorW.PrintWords.Aside0 renaming mk -> aMk
open Go.World renaming block_lt_of_cell? -> wLt
open Go.Proofs.YtiemmhhjiplnlaaDoorW.PrintWords renaming pw_below_drewN -> bwN
open Go.Proofs.YtiemmhhjiplnlaaDoorW.PrintWords renaming below_drew1 -> bw1
open Go.Proofs.YtiemmhhjiplnlaaDoorW.PrintWords renaming below_alloc -> bwA
section
/-! ### impl_lineWords: function 24 -/
-- IMPORT Derived.Shelf.SlicesE.DeleteFunc
-- IMPORT Derived.Lib.OwnBridge
-- USES 44 45
def delRen : Go.Shelf.Ren:=⟨fun x => match x with | 10 => 43 | 6 => 61 | n => n,fun x => match x with | 0 => 0 | 3 => 3 | 4 => 4 | 22 => 43 | 23 => 9 | 25 => 39 | n => n,fun n => n⟩
set_option maxRecDepth 100000 in
theorem delLays : Go.Proofs.SlLaysH.n10 Tryd.prog delRen:={ mixed:=by kernel_rfl,f6:=⟨(Tryd.f61).name,by kernel_rfl,Tryd.func61.trans (congrArg some (by kernel_rfl))⟩,f10:=⟨(Tryd.f43).name,by kernel_rfl,Tryd.func43.trans (congrArg some (by kernel_rfl))⟩,t0:=Tryd.underlying0,a0:=Tryd.isAgg0,z0:=Tryd.sizeOf0,v0:=Tryd.zeroValue0,t3:=Tryd.underlying3,a3:=Tryd.isAgg3,z3:=Tryd.sizeOf3,v3:=Tryd.zeroValue3,t4:=Tryd.underlying4,a4:=Tryd.isAgg4,z4:=Tryd.sizeOf4,v4:=Tryd.zeroValue4,t22:=Tryd.underlying43,a22:=Tryd.isAgg43,z22:=Tryd.sizeOf43,v22:=Tryd.zeroValue43,t25:=Tryd.underlying39,a25:=Tryd.isAgg39,z25:=Tryd.sizeOf39,v25:=Tryd.zeroValue39,a23:=Tryd.isAgg9,z23:=Tryd.sizeOf9 }
theorem reps_str {l : List ByteArray} {cs : List Value} (h : Reps (fun x c => c = [Value.string x]) 1 l cs) : cs = l.map Value.string:=by
 apply List.ext_getElem?
 intro j
 rw [List.getElem?_map]
 rcases Nat.lt_or_ge j l.length with hj | hj
 ·have h1:=h.2 j _ (List.getElem?_eq_getElem hj)
  rw [List.getElem?_eq_getElem hj]
  have h2 : ((cs.drop (j * 1)).take 1)[0]? = some (Value.string l[j]):=by rw [h1];rfl
  rw [List.getElem?_take,if_pos (by decide),List.getElem?_drop,Nat.mul_one,Nat.add_zero] at h2
  exact h2
 ·rw [List.getElem?_eq_none (by rw [h.1];omega),List.getElem?_eq_none hj]
  rfl
theorem str_reps (l : List ByteArray) : Reps (fun x c => c = [Value.string x]) 1 l (l.map Value.string):=by
 refine ⟨by simp,fun j p hj => ?_⟩
 have hj' : (l.map Value.string)[j]? = some (Value.string p):=by rw [List.getElem?_map,hj];rfl
 obtain ⟨hlt,hget⟩:=List.getElem?_eq_some_iff.1 hj'
 rw [Nat.mul_one,List.drop_eq_getElem_cons hlt,hget]
 rfl
theorem lineWords1_f (x : ByteArray) : impl_lineWords_1.f x = some (x.size == 0):=by
 rw [impl_lineWords_1.f]
 congr 1
 rw [Lib.toList_data,Bool.eq_iff_iff,beq_iff_eq,beq_iff_eq,Lib.size_eq,List.length_eq_zero_iff]
def wordsOf (t : ByteArray) : List ByteArray:=(splitOn1 t ⟨#[32]⟩).filter fun x => !(x.size == 0)
def impl_lineWords.f (a0 : ByteArray) : Option (List ByteArray):=if a0.size < 4294967281 then some (wordsOf a0) else none
set_option maxHeartbeats 4000000 in
set_option maxRecDepth 100000 in
theorem impl_lineWords.calls (a0 : ByteArray) (r : List ByteArray) (w : World) (h : impl_lineWords.f a0 = some r) :
  Calls Tryd.prog 24 #[.string a0] w fun e w' => ∃ v0_ : Value,e = .returned (v0_) ∧ Kd.R Kd.string 9 w' w.heap.size (fun _ => True) v0_ r ∧ Below w.heap.size w w':=by
 by_cases hb : a0.size < 4294967281
 ·rw [impl_lineWords.f,if_pos hb] at h
  obtain rfl:=Option.some.inj h
  obtain ⟨l,hl⟩ : ∃ l,splitOn1 a0 ⟨#[32]⟩ = l:=⟨_,rfl⟩
  have hsp : strings_Split.f a0 ⟨#[32]⟩ = some l:=by rw [strings_Split.f,if_pos ⟨rfl,hb⟩,hl]
  have hl1 : 1 ≤ l.length:=by rw [← hl,splitOn1,Lib.splitB_all _ (Nat.le_refl _) 0 _ a0 rfl];omega
  rw [wordsOf,hl]
  go_enter Tryd.func24,Tryd.ntmps24
  go_wp2_with (first
   | (
     go_at_call 44;refine (strings_Split.calls a0 _ l _ hsp).mono ?_;rintro e w1 ⟨v0,rfl,hR,hB⟩
     obtain ⟨_,inner,ho,hr⟩:=hR
     obtain rfl:=reps_str hr
     have hnn : v0 ≠ .slice none 0 0:=fun e => by
      obtain ⟨A,c,e2⟩:=own_slice ho
      rw [e2] at e
      injection e with _ e3 _
      omega
     obtain ⟨g,cap,rfl,hbg,hgl,hnc,hcm,_,hH⟩:=Lib.holds_of_ownsRow (enc:=Value.string) ho hnn)
   | (
     go_at_call 43
     refine (AnyE.slices_DeleteFunc (ρ:=delRen) delLays Value.string (fun _ => rfl) (fun x => x.size == 0) 45 #[] (enters_of Tryd.func45 (by kernel_rfl) rfl) ByteArray.empty Tryd.zeroValue9 g 0 cap l.toArray _ ?hp ?hpo hH ?hs ?hc).mono ?_
     case hp => exact fun W x _ => (impl_lineWords_1.calls x (x.size == 0) W (lineWords1_f x)).mono fun e w' hh => by obtain ⟨he,⟨nd,hd⟩⟩:=hh;exact ⟨he,nd,hd⟩
     case hpo => exact fun n os dk x _ => (impl_lineWords_1.calls x (x.size == 0) _ (lineWords1_f x)).mono fun e w' hh => by obtain ⟨he,⟨nd,hd⟩⟩:=hh;exact ⟨he,nd,hd⟩
     case hs => simp;unfold maxLen at hcm;omega
     case hc => simpa using hnc
     rintro e w2 ⟨rfl,q,rfl⟩))
  go_ret
  have hm : (l.filter fun x => !(x.size == 0)).length ≤ l.length:=List.length_filter_le _ _
  generalize (l.filter fun x => !(x.size == 0)) = m at hm ⊢
  have ho':=Lib.ownsRow_putRow (enc:=Value.string) (q:=q) (k:=m.length) (zs:=l) (ys:=m ++ List.replicate (l.length - m.length) ByteArray.empty) ho (by rw [List.length_append,List.length_replicate];omega) hm
  rw [List.take_left'] at ho'
  ·exact ⟨_,rfl,⟨fun _ _ => trivial,_,ho',str_reps m⟩,Lib.below_putRow hB hbg⟩
  ·rfl
 ·rw [impl_lineWords.f,if_neg hb] at h
  cases h
end
section
/-! ### impl_protoWord: function 20 -/
def impl_protoWord.f (a0 : Int) : Option (ByteArray):=if a0 = 1 then (some (⟨#[105,99,109,112]⟩ : ByteArray)) else (if a0 = 6 then (some (⟨#[116,99,112]⟩ : ByteArray)) else (if a0 = 17 then (some (⟨#[117,100,112]⟩ : ByteArray)) else (some (⟨#[97,110,121]⟩ : ByteArray))))
set_option maxHeartbeats 8000000 in
set_option maxRecDepth 100000 in
theorem impl_protoWord.calls (a0 : Int) (r : ByteArray) (w : World) (h : impl_protoWord.f a0 = some r) :
  Calls Tryd.prog 20 #[.int .i64 a0] w fun e w' => e = .returned (.string r) ∧ Drawn0 w w':=by
 have H : (if a0 = 1 then (some (⟨#[105,99,109,112]⟩ : ByteArray)) else (if a0 = 6 then (some (⟨#[116,99,112]⟩ : ByteArray)) else (if a0 = 17 then (some (⟨#[117,100,112]⟩ : ByteArray)) else (some (⟨#[97,110,121]⟩ : ByteArray))))) = some r:=h
 clear h
 by_cases c2 : a0 = 1
 ·rw [if_pos c2] at H
  have c2b0 : (a0 == 1) = true:=beq_iff_eq.mpr c2
  have c2b1 : (a0 != 1) = false:=bne_eq_false_iff_eq.mpr c2
  clear c2
  obtain rfl:=Option.some.inj H
  go_enter Tryd.func20,Tryd.ntmps20
  go_wp2
  go_ret
  exact ⟨by first | rfl|(simp;done)|(simp [*];done)|(simp [ne_nil_b];done)|(simp [ne_nil_b, *];done),by repeat (first|exact Drawn0.refl _|apply Drawn0.step)⟩
 ·rw [if_neg c2] at H
  have c2b0 : (a0 == 1) = false:=beq_eq_false_iff_ne.mpr c2
  have c2b1 : (a0 != 1) = true:=bne_iff_ne.mpr c2
  by_cases c3 : a0 = 6
  ·rw [if_pos c3] at H
   have c3b0 : (a0 == 6) = true:=beq_iff_eq.mpr c3
   have c3b1 : (a0 != 6) = false:=bne_eq_false_iff_eq.mpr c3
   clear c3
   obtain rfl:=Option.some.inj H
   go_enter Tryd.func20,Tryd.ntmps20
   go_wp2
   go_ret
   exact ⟨by first | rfl|(simp;done)|(simp [*];done)|(simp [ne_nil_b];done)|(simp [ne_nil_b, *];done),by repeat (first|exact Drawn0.refl _|apply Drawn0.step)⟩
  ·rw [if_neg c3] at H
   have c3b0 : (a0 == 6) = false:=beq_eq_false_iff_ne.mpr c3
   have c3b1 : (a0 != 6) = true:=bne_iff_ne.mpr c3
   by_cases c4 : a0 = 17
   ·rw [if_pos c4] at H
    have c4b0 : (a0 == 17) = true:=beq_iff_eq.mpr c4
    have c4b1 : (a0 != 17) = false:=bne_eq_false_iff_eq.mpr c4
    clear c4
    obtain rfl:=Option.some.inj H
    go_enter Tryd.func20,Tryd.ntmps20
    go_wp2
    go_ret
    exact ⟨by first | rfl|(simp;done)|(simp [*];done)|(simp [ne_nil_b];done)|(simp [ne_nil_b, *];done),by repeat (first|exact Drawn0.refl _|apply Drawn0.step)⟩
   ·rw [if_neg c4] at H
    have c4b0 : (a0 == 17) = false:=beq_eq_false_iff_ne.mpr c4
    have c4b1 : (a0 != 17) = true:=bne_iff_ne.mpr c4
    obtain rfl:=Option.some.inj H
    go_enter Tryd.func20,Tryd.ntmps20
    go_wp2
    go_ret
    exact ⟨by first | rfl|(simp;done)|(simp [*];done)|(simp [ne_nil_b];done)|(simp [ne_nil_b, *];done),by repeat (first|exact Drawn0.refl _|apply Drawn0.step)⟩
end
section
/-! ### impl_readProto: function 25 -/
def impl_readProto.l0 : Nat → ByteArray → List Int → Int → Int → Option (Int × Bool)
 | 0,_,_,_,_ => none
 | k + 1,x0,x6,x7,x8 => if x8 < x7 then (if 0 ≤ x8 then (if x8 < (x6.length : Int) then ((impl_protoWord.f (rd x6 x8)).bind fun t312 => (if t312.toList = x0.toList then (some (rd x6 x8,true)) else (impl_readProto.l0 k x0 x6 x7 (wrap64 (x8 + 1))))) else (none)) else (none)) else (some (0,false))
def impl_readProto.f (k : Nat) (a0 : ByteArray) : Option (Int × Bool):=(some (([0,1,6,17] : List Int) : List Int)).bind fun y308 => (impl_readProto.l0 k a0 y308 (y308.length : Int) 0)
theorem impl_readProto.mono_l : ∀ k,(∀ y0 y1 y2 y3,LeO (impl_readProto.l0 k y0 y1 y2 y3) (impl_readProto.l0 (k + 1) y0 y1 y2 y3))
 | 0 => fun _ _ _ _ r h => by simp [impl_readProto.l0] at h
 | k + 1 => by
  have ih0:=impl_readProto.mono_l k
  ·intro y0 y1 y2 y3
   unfold impl_readProto.l0
   repeat' first
   | (with_reducible exact ih0 _ _ _ _)
   | (with_reducible exact LeO.refl _)
   | (with_reducible exact LeO.none _)
   | (with_reducible refine LeO.ite ?_ ?_)
   | (with_reducible refine LeO.bind ?_ (fun _ => ?_))
   | exact ih0 _ _ _ _
   | exact LeO.none _
   | refine LeO.ite ?_ ?_
   | refine LeO.bind ?_ (fun _ => ?_)
theorem impl_readProto.mono : ∀ a0 k,LeO (impl_readProto.f k a0) (impl_readProto.f (k + 1) a0):=by
 intro a0 k
 have ih0:=impl_readProto.mono_l k
 unfold impl_readProto.f
 repeat' first
   | (with_reducible exact ih0 _ _ _ _)
   | (with_reducible exact LeO.refl _)
   | (with_reducible exact LeO.none _)
   | (with_reducible refine LeO.ite ?_ ?_)
   | (with_reducible refine LeO.bind ?_ (fun _ => ?_))
   | exact ih0 _ _ _ _
   | exact LeO.none _
   | refine LeO.ite ?_ ?_
   | refine LeO.bind ?_ (fun _ => ?_)
set_option maxHeartbeats 8000000 in
set_option maxRecDepth 100000 in
theorem impl_readProto.calls (k : Nat) (a0 : ByteArray) (r1 : Int) (r2 : Bool) (w : World) (h : impl_readProto.f k a0 = some (r1,r2)) :
  Calls Tryd.prog 25 #[.string a0] w fun e w' => e = .returned (.tuple #[.int .i64 r1,.bool r2]) ∧ Below w.heap.size w w':=by
 have HB:=aMk (Below.refl w.heap.size w)
 have H : ((some (([0,1,6,17] : List Int) : List Int)).bind fun y308 => (impl_readProto.l0 k a0 y308 (y308.length : Int) 0)) = some (r1,r2):=h
 clear h
 obtain ⟨y308,hy308⟩ : ∃ y_ : List Int,y_ = (([0,1,6,17] : List Int)):=⟨_,rfl⟩
 replace H : (impl_readProto.l0 k a0 y308 (y308.length : Int) 0) = some (r1,r2):=by first|(rw [hy308];with_reducible exact H)|(have H2_:=(Option.bind_some _ _).symm.trans H;rw [hy308];with_reducible exact H2_)|(have H2_:=(Option.bind_some _ _).symm.trans H;with_reducible exact H2_) | with_reducible exact H|(rw [hy308];exact H)|exact H
 have Ny308:=aMk hy308
 clear hy308
 have H':=aMk H
 clear H
 go_enter Tryd.func25,Tryd.ntmps25
 go_wp2_with (first|((with_reducible refine gate_dst (N:=6) rfl ?_);refine Kd.R_lit (Kd.int .i64) _ 3 ?hg (N:=6) ?hd (xs:=([0,1,6,17] : List Int)) (inner:=[.int .i64 0,.int .i64 1,.int .i64 6,.int .i64 17]) (ok:=fun _ => True) (okp:=fun _ => True) ?hr ?hp (fun _ hk => hk) trivial (Below.refl _ _) (Nat.le_refl _) (by simp) ?_;(case hd => rfl);(case hg => rfl);(case hr => first|(go_simp;done)|(go_simp;rfl));(case hp => exact (Reps.one (show Kd.M (Kd.int .i64) _ _ _ 0 [.int .i64 0] from rfl) (Reps.one (show Kd.M (Kd.int .i64) _ _ _ 1 [.int .i64 1] from rfl) (Reps.one (show Kd.M (Kd.int .i64) _ _ _ 6 [.int .i64 6] from rfl) (Reps.one (show Kd.M (Kd.int .i64) _ _ _ 17 [.int .i64 17] from rfl) (Reps.none _ _))))));intro v309 w2 ho3 hb hg_ hnew_;clear hg_ hnew_;(first|rw [← Ny308.out] at ho3|(simp only [Int.reduceToNat] at ho3;rw [← Ny308.out] at ho3));have n0_:=aMk (Kd.R_lower ho3 (below_size (by repeat first|exact HB.out|apply bwA|apply bwN|apply bw1)));have n1_:=aMk (below_step (by repeat first|exact HB.out|apply bwA|apply bwN|apply bw1) hb);clear HB;have HO310:=n0_;have HB:=n1_;clear n0_ n1_;clear hb ho3;obtain ⟨Ao4,co4,eo4⟩:=Kd.R_slice HO310.out;subst eo4))
 go_loopg [8] k (fun kq v8 w' => ∃ (x8_1 : Int),v8 = .int .i64 x8_1 ∧ Aside0 (impl_readProto.l0 kq a0 y308 (y308.length : Int) x8_1 = some (r1,r2)) ∧ Aside0 (kq ≤ k) ∧ Aside0 (Kd.R (Kd.int .i64) 3 w' w.heap.size (fun _ => True) (.slice Ao4 y308.length co4) y308) ∧ Aside0 (Below w.heap.size w w'))
 case atStart => exact ⟨(0),(by first | rfl|(simp;done)|(simp [*];done)|(simp [ne_nil_b];done)|(simp [ne_nil_b, *];done)),H',⟨Nat.le_refl _⟩,⟨by (with_reducible repeat (first|apply Kd.R_alloc|apply Kd.R_drewN|apply Kd.R_drew));exact HO310.out⟩,⟨by repeat (first|(with_reducible first|exact HB.out|apply bwA|apply bwN|apply bw1)|exact HB.out)⟩⟩
 case round =>
  clear H'
  try clear c2
  try clear p2
  obtain ⟨x8_1,rfl,HA,HK1,HO_6,HB⟩:=hrel
  cases gk with
  | zero => exact absurd HA.out (by simp [impl_readProto.l0])
  | succ k1 =>
   have H:=HA.out
   clear HA
   simp only [impl_readProto.l0] at H
   by_cases c5 : x8_1 < (y308.length : Int)
   ·rw [if_pos c5] at H
    have c5b0 : decide (x8_1 < (y308.length : Int)) = true:=decide_eq_true c5
    clear c5
    by_cases c6 : 0 ≤ x8_1
    ·rw [if_pos c6] at H
     have c6b0 : decide (0 ≤ x8_1) = true:=decide_eq_true c6
     clear c6
     by_cases c7 : x8_1 < (y308.length : Int)
     ·rw [if_pos c7] at H
      have c7b0 : decide (x8_1 < (y308.length : Int)) = true:=decide_eq_true c7
      clear c7
      replace H:=Option.bind_eq_some_iff.mp H
      obtain ⟨t312,A80,H⟩:=H
      replace H : (if t312.toList = a0.toList then (some (rd y308 x8_1,true)) else (impl_readProto.l0 k1 a0 y308 (y308.length : Int) (wrap64 (x8_1 + 1)))) = some (r1,r2):=H
      have A8:=aMk A80
      clear A80
      by_cases c9 : t312.toList = a0.toList
      ·rw [if_pos c9] at H
       have c9b0 : (t312.toList == a0.toList) = true:=beq_iff_eq.mpr c9
       have c9b1 : (t312.toList != a0.toList) = false:=bne_eq_false_iff_eq.mpr c9
       clear c9
       simp only [Option.some.injEq,Prod.mk.injEq] at H
       obtain ⟨rfl,rfl⟩:=H
       have p311 : 0 ≤ (x8_1 : Int):=of_decide_eq_true (by first|(with_reducible assumption) | assumption)
       have q311 : x8_1 < (y308.length : Int):=of_decide_eq_true (by first|(with_reducible assumption) | assumption)
       obtain ⟨ad311,e311,hx311_0⟩:=Kd.at_int (Kd.R_reads' HO_6.out).2.2 x8_1 p311 q311
       cases e311
       replace p311:=eq_true p311
       replace q311:=eq_true q311
       go_wp2_with (first|((with_reducible refine gate_callee (f:=20) rfl ?_);refine goesL_ (some 13) rfl rfl Tryd.func20 (by kernel_rfl) rfl #[.int .i64 (rd y308 x8_1)] rfl (by (try simp only [List.map_toArray,List.map_cons,List.map_nil]);first | done | rfl|(simp only [List.length_drop,List.length_take];rfl)) ?_;(with_reducible refine (impl_protoWord.calls (rd y308 x8_1) t312 _ A8.out).mono ?_);rintro e w' ⟨rfl,⟨nd,rfl⟩⟩;refine ⟨_,rfl,?_⟩))
       go_ret2
       exact ⟨by first | rfl|(simp [errW_none,errW_some] <;> rfl)|(simp [*,errW_none,errW_some] <;> rfl),by repeat (first|(with_reducible first|exact HB.out|apply bwA|apply bwN|apply bw1)|exact HB.out)⟩
      ·rw [if_neg c9] at H
       have c9b0 : (t312.toList == a0.toList) = false:=beq_eq_false_iff_ne.mpr c9
       have c9b1 : (t312.toList != a0.toList) = true:=bne_iff_ne.mpr c9
       have H':=aMk H
       clear H
       have p311 : 0 ≤ (x8_1 : Int):=of_decide_eq_true (by first|(with_reducible assumption) | assumption)
       have q311 : x8_1 < (y308.length : Int):=of_decide_eq_true (by first|(with_reducible assumption) | assumption)
       obtain ⟨ad311,e311,hx311_0⟩:=Kd.at_int (Kd.R_reads' HO_6.out).2.2 x8_1 p311 q311
       cases e311
       replace p311:=eq_true p311
       replace q311:=eq_true q311
       go_wp2_with (first|((with_reducible refine gate_callee (f:=20) rfl ?_);refine goesL_ (some 13) rfl rfl Tryd.func20 (by kernel_rfl) rfl #[.int .i64 (rd y308 x8_1)] rfl (by (try simp only [List.map_toArray,List.map_cons,List.map_nil]);first | done | rfl|(simp only [List.length_drop,List.length_take];rfl)) ?_;(with_reducible refine (impl_protoWord.calls (rd y308 x8_1) t312 _ A8.out).mono ?_);rintro e w' ⟨rfl,⟨nd,rfl⟩⟩;refine ⟨_,rfl,?_⟩))
       go_roundg k1
       case measure => have:=HK1.out;omega
       case rel => exact ⟨(wrap64 (x8_1 + 1)),(by first | rfl|(simp;done)|(simp [*];done)|(simp [ne_nil_b];done)|(simp [ne_nil_b, *];done)),H',⟨by have:=HK1.out;omega⟩,⟨by (with_reducible repeat (first|apply Kd.R_alloc|apply Kd.R_drewN|apply Kd.R_drew));exact HO_6.out⟩,⟨by repeat (first|(with_reducible first|exact HB.out|apply bwA|apply bwN|apply bw1)|exact HB.out)⟩⟩
     ·rw [if_neg c7] at H
      exact absurd H (by simp)
    ·rw [if_neg c6] at H
     exact absurd H (by simp)
   ·rw [if_neg c5] at H
    have c5b0 : decide (x8_1 < (y308.length : Int)) = false:=decide_eq_false c5
    clear c5
    simp only [Option.some.injEq,Prod.mk.injEq] at H
    obtain ⟨rfl,rfl⟩:=H
    go_wp2
    go_ret2
    exact ⟨by first | rfl|(simp [errW_none,errW_some] <;> rfl)|(simp [*,errW_none,errW_some] <;> rfl),by repeat (first|(with_reducible first|exact HB.out|apply bwA|apply bwN|apply bw1)|exact HB.out)⟩
end
section
-- IMPORT Derived.Laws.BitsLemmas
-- IMPORT Derived.OpenShut
theorem wrap_id {n : Int} (h0 : -9223372036854775808 ≤ n) (h1 : n ≤ 9223372036854775807) : wrap64 n = n:=by
 unfold wrap64;omega
end
section
/-! ### strings_Cut: function 46 -/
-- IMPORT Derived.Shelf.Strings.Cut
-- IMPORT Derived.Lib.SplitLaws
def cutRen : Go.Shelf.Ren:=⟨fun x => match x with | 145 => 46 | 220 => 63 | 219 => 76 | 217 => 91 | 225 => 92 | 224 => 93 | 267 => 94 | 266 => 101 | 314 => 102 | n => n,fun x => match x with | 9 => 9 | 4 => 4 | 59 => 75 | 3 => 3 | 5 => 5 | 46 => 61 | 146 => 123 | 51 => 109 | n => n,fun x => match x with | 1 => 0 | n => n⟩
set_option maxRecDepth 100000 in
theorem cutLays : Go.Proofs.Lays.n145 Tryd.prog cutRen:={ mixed:=by kernel_rfl,f145:=Tryd.func46.trans (congrArg some (by kernel_rfl)),f217:=Tryd.func91.trans (congrArg some (by kernel_rfl)),f219:=Tryd.func76.trans (congrArg some (by kernel_rfl)),f220:=Tryd.func63.trans (congrArg some (by kernel_rfl)),f224:=Tryd.func93.trans (congrArg some (by kernel_rfl)),f225:=Tryd.func92.trans (congrArg some (by kernel_rfl)),f266:=Tryd.func101.trans (congrArg some (by kernel_rfl)),f267:=Tryd.func94.trans (congrArg some (by kernel_rfl)),f314:=Tryd.func102.trans (congrArg some (by kernel_rfl)),t3:=Tryd.underlying3,a3:=Tryd.isAgg3,z3:=Tryd.sizeOf3,v3:=Tryd.zeroValue3,t4:=Tryd.underlying4,a4:=Tryd.isAgg4,z4:=Tryd.sizeOf4,v4:=Tryd.zeroValue4,t5:=Tryd.underlying5,a5:=Tryd.isAgg5,z5:=Tryd.sizeOf5,v5:=Tryd.zeroValue5,t9:=Tryd.underlying9,a9:=Tryd.isAgg9,z9:=Tryd.sizeOf9,v9:=Tryd.zeroValue9,t46:=Tryd.underlying61,a46:=Tryd.isAgg61,z46:=Tryd.sizeOf61,v46:=Tryd.zeroValue61,t51:=Tryd.underlying109,a51:=Tryd.isAgg109,z51:=Tryd.sizeOf109,v51:=Tryd.zeroValue109,t59:=Tryd.underlying75,a59:=Tryd.isAgg75,z59:=Tryd.sizeOf75,v59:=Tryd.zeroValue75,t146:=Tryd.underlying123,a146:=Tryd.isAgg123,z146:=Tryd.sizeOf123,v146:=Tryd.zeroValue123,g1:=by kernel_rfl }
theorem index_byte2 (c : UInt8) : ∀ l : List UInt8,Lib.index l [c] = Lib.indexByte l c
 | [] => rfl
 | b :: l => by
  have e : [c].isPrefixOf (b :: l) = (b == c):=by
   rw [List.isPrefixOf_cons_cons]
   simp [Bool.beq_comm,BEq.comm]
  rw [Lib.index,Lib.indexByte,e,index_byte2 c l]
def cutAt (s sep : ByteArray) : ByteArray × ByteArray × Bool:=if 0 ≤ Lib.indexB s sep then (s.extract 0 (Lib.indexB s sep).toNat,s.extract ((Lib.indexB s sep).toNat + sep.size) s.size,true) else (s,ByteArray.empty,false)
def strings_Cut.f (a0 a1 : ByteArray) : Option (ByteArray × ByteArray × Bool):=if a1.size = 1 ∧ a0.size < 4294967281 then some (cutAt a0 a1) else none
set_option maxHeartbeats 2000000 in
set_option maxRecDepth 100000 in
theorem slite_Cut_by (s sep : ByteArray) (w : World) (hs : s.size < 4294967281) (hI : ∀ w : World,Calls Tryd.prog 76 #[.string s,.string sep] w fun e w' => e = .returned (.int .i64 (Lib.indexB s sep)) ∧ w' = w) :
  Calls Tryd.prog 63 #[.string s,.string sep] w fun e w' => e = .returned (.tuple #[.string (cutAt s sep).1,.string (cutAt s sep).2.1,.bool (cutAt s sep).2.2]) ∧ ∃ n,w' = w.drewN n:=by
 rcases Lib.indexB_cases s sep with hix | ⟨i,hix,hroom⟩
 ·have e : cutAt s sep = (s,ByteArray.empty,false):=by rw [cutAt,hix,if_neg (by decide)]
  rw [e]
  go_enter Tryd.func63,Tryd.ntmps63
  go_wp2_with (go_at_call 76;refine (hI _).mono ?_;rintro e w' ⟨rfl,rfl⟩;rw [hix])
  go_ret3
  exact ⟨rfl,0,rfl⟩
 ·have e : cutAt s sep = (s.extract 0 i,s.extract (i + sep.size) s.size,true):=by rw [cutAt,hix,if_pos (by omega),Int.toNat_natCast]
  rw [e]
  have hw1 : IntKind.i64.wrap ((i : Int) + (sep.size : Int)) = (i : Int) + (sep.size : Int):=by rw [i64_w];exact wrap_id (by omega) (by omega)
  have hw2 : wrap64 ((i : Int) + (sep.size : Int)) = (i : Int) + (sep.size : Int):=wrap_id (by omega) (by omega)
  have mixed : Tryd.prog.follows Departure.mixedOrders = true:=by kernel_rfl
  have c1 : (0 : Int) ≤ ↑i:=by omega
  have c2 : (↑i : Int) ≤ ↑s.size:=by omega
  have c3 : (0 : Int) ≤ ↑i + ↑sep.size:=by omega
  have c4 : (↑i + ↑sep.size : Int) ≤ ↑s.size:=by omega
  go_enter Tryd.func63,Tryd.ntmps63
  go_wp2_with (go_at_call 76;refine (hI _).mono ?_;rintro e w' ⟨rfl,rfl⟩;rw [hix])
  go_region_o
  go_wp2
  go_ret3
  exact ⟨rfl,1,rfl⟩
theorem slite_Cut_one (s : ByteArray) (c : UInt8) (w : World) (hs : s.size < 4294967281) :
  Calls Tryd.prog 63 #[.string s,.string ⟨#[c]⟩] w fun e w' => e = .returned (.tuple #[.string (cutAt s ⟨#[c]⟩).1,.string (cutAt s ⟨#[c]⟩).2.1,.bool (cutAt s ⟨#[c]⟩).2.2]) ∧ ∃ n,w' = w.drewN n :=
 slite_Cut_by s ⟨#[c]⟩ w hs fun w => by
  refine (Any.stringslite_Index_one (ρ:=cutRen) { cutLays with } s c w).mono fun e w' hh => ?_
  rw [show Lib.indexB s ⟨#[c]⟩ = Lib.indexByte s.data.toList c from index_byte2 c _]
  exact hh
set_option maxHeartbeats 1000000 in
set_option maxRecDepth 100000 in
theorem strings_Cut.calls (a0 a1 : ByteArray) (r1 : ByteArray) (r2 : ByteArray) (r3 : Bool) (w : World) (h : strings_Cut.f a0 a1 = some (r1,r2,r3)) :
  Calls Tryd.prog 46 #[.string a0,.string a1] w fun e w' => e = .returned (.tuple #[.string r1,.string r2,.bool r3]) ∧ Drawn0 w w':=by
 by_cases hb : a1.size = 1 ∧ a0.size < 4294967281
 ·rw [strings_Cut.f,if_pos hb] at h
  have h1:=Option.some.inj h
  obtain ⟨c,rfl⟩:=Lib.one_byte a1 hb.1
  have hh:=slite_Cut_one a0 c w hb.2
  rw [h1] at hh
  go_enter Tryd.func46,Tryd.ntmps46
  go_wp2_with (go_at_call 63;refine hh.mono ?_;rintro e w' ⟨rfl,n,rfl⟩)
  go_ret3
  exact ⟨rfl,n,rfl⟩
 ·rw [strings_Cut.f,if_neg hb] at h
  cases h
end
section
/-! ### impl_numberIn: function 48 -/
def impl_numberIn.f (a0 : ByteArray) (a1 : Int) (a2 : Int) : Option (Int × Bool):=(impl_number.f a0).bind fun bt330 => (if bt330.2 = true then ((impl_within.f bt330.1 a1 a2).bind fun t332 => (some (bt330.1,t332))) else (some (bt330.1,false)))
set_option maxHeartbeats 8000000 in
set_option maxRecDepth 100000 in
theorem impl_numberIn.calls (a0 : ByteArray) (a1 : Int) (a2 : Int) (r1 : Int) (r2 : Bool) (w : World) (hGe : GLe w) (hGp : GLp w) (h : impl_numberIn.f a0 a1 a2 = some (r1,r2)) :
  Calls Tryd.prog 48 #[.string a0,.int .i64 a1,.int .i64 a2] w fun e w' => e = .returned (.tuple #[.int .i64 r1,.bool r2]) ∧ Below w.heap.size w w':=by
 have HGe_:=aMk hGe
 have HGp_:=aMk hGp
 clear hGe hGp
 have HB:=aMk (Below.refl w.heap.size w)
 have H : ((impl_number.f a0).bind fun bt330 => (if bt330.2 = true then ((impl_within.f bt330.1 a1 a2).bind fun t332 => (some (bt330.1,t332))) else (some (bt330.1,false)))) = some (r1,r2):=h
 clear h
 replace H:=Option.bind_eq_some_iff.mp H
 obtain ⟨⟨t330,t331⟩,A40,H⟩:=H
 replace H : (if t331 = true then ((impl_within.f t330 a1 a2).bind fun t332 => (some (t330,t332))) else (some (t330,false))) = some (r1,r2):=H
 have A4:=aMk A40
 clear A40
 by_cases c5 : t331 = true
 ·subst c5
  have H1 : ((impl_within.f t330 a1 a2).bind fun t332 => (some (t330,t332))) = some (r1,r2):=by rw [if_pos rfl] at H;exact H
  clear H
  have H:=H1
  clear H1
  replace H:=Option.bind_eq_some_iff.mp H
  obtain ⟨t332,A60,H⟩:=H
  replace H : (some (t330,t332)) = some (r1,r2):=H
  have A6:=aMk A60
  clear A60
  simp only [Option.some.injEq,Prod.mk.injEq] at H
  obtain ⟨rfl,rfl⟩:=H
  go_enter Tryd.func48,Tryd.ntmps48
  go_wp2_with (first|((with_reducible refine gate_callee (f:=27) rfl ?_);refine goesL_ (some 12) rfl rfl Tryd.func27 (by kernel_rfl) rfl #[.string a0] rfl (by (try simp only [List.map_toArray,List.map_cons,List.map_nil]);first | done | rfl|(simp only [List.length_drop,List.length_take];rfl)) ?_;(with_reducible refine (impl_number.calls a0 t330 true _ ?sideGe ?sideGp A4.out).mono ?_);(case sideGe => exact GLe_below HGe_.out (by repeat (first|(with_reducible first|exact HB.out|apply bwA|apply bwN|apply bw1|refine below_set ?_ (Aside0.out (by assumption)))|exact HB.out)));(case sideGp => exact GLp_below HGp_.out (by repeat (first|(with_reducible first|exact HB.out|apply bwA|apply bwN|apply bw1|refine below_set ?_ (Aside0.out (by assumption)))|exact HB.out)));rintro e w7 ⟨rfl,hb⟩;refine ⟨_,rfl,?_⟩;have n0_:=aMk (below_step (by repeat first|exact HB.out|apply bwA|apply bwN|apply bw1) hb);clear HB;have HB:=n0_;clear n0_;(try clear hb);(try clear hb2);(try clear hk);(try clear hi))|(go_at_call 55;(with_reducible refine (impl_within.calls t330 a1 a2 t332 _ A6.out).mono ?_);rintro e w' ⟨rfl,⟨nd,rfl⟩⟩))
  go_ret2
  exact ⟨by first | rfl|(simp [errW_none,errW_some] <;> rfl)|(simp [*,errW_none,errW_some] <;> rfl),by repeat (first|(with_reducible first|exact HB.out|apply bwA|apply bwN|apply bw1)|exact HB.out)⟩
 ·replace c5:=Bool.eq_false_iff.mpr c5
  subst c5
  have H1 : (some (t330,false)) = some (r1,r2):=by rw [if_neg (show ¬ (false = true) by decide)] at H;exact H
  clear H
  have H:=H1
  clear H1
  simp only [Option.some.injEq,Prod.mk.injEq] at H
  obtain ⟨rfl,rfl⟩:=H
  go_enter Tryd.func48,Tryd.ntmps48
  go_wp2_with (first|((with_reducible refine gate_callee (f:=27) rfl ?_);refine goesL_ (some 12) rfl rfl Tryd.func27 (by kernel_rfl) rfl #[.string a0] rfl (by (try simp only [List.map_toArray,List.map_cons,List.map_nil]);first | done | rfl|(simp only [List.length_drop,List.length_take];rfl)) ?_;(with_reducible refine (impl_number.calls a0 t330 false _ ?sideGe ?sideGp A4.out).mono ?_);(case sideGe => exact GLe_below HGe_.out (by repeat (first|(with_reducible first|exact HB.out|apply bwA|apply bwN|apply bw1|refine below_set ?_ (Aside0.out (by assumption)))|exact HB.out)));(case sideGp => exact GLp_below HGp_.out (by repeat (first|(with_reducible first|exact HB.out|apply bwA|apply bwN|apply bw1|refine below_set ?_ (Aside0.out (by assumption)))|exact HB.out)));rintro e w8 ⟨rfl,hb⟩;refine ⟨_,rfl,?_⟩;have n0_:=aMk (below_step (by repeat first|exact HB.out|apply bwA|apply bwN|apply bw1) hb);clear HB;have HB:=n0_;clear n0_;(try clear hb);(try clear hb2);(try clear hk);(try clear hi)))
  go_ret2
  exact ⟨by first | rfl|(simp [errW_none,errW_some] <;> rfl)|(simp [*,errW_none,errW_some] <;> rfl),by repeat (first|(with_reducible first|exact HB.out|apply bwA|apply bwN|apply bw1)|exact HB.out)⟩
end
section
/-! ### impl_readAddress: function 47 -/
def impl_readAddress.l0 : Nat → Int → List ByteArray → Int → Int → Option (Int × Bool)
 | 0,_,_,_,_ => none
 | k + 1,x5,x15,x16,x17 => if x17 < x16 then (if 0 ≤ x17 then (if x17 < (x15.length : Int) then ((impl_numberIn.f (rdOf ByteArray.empty x15 x17) 0 255).bind fun bt337 => (if bt337.2 = true then (impl_readAddress.l0 k (wrap64 ((wrap64 (x5 * 256)) + bt337.1)) x15 x16 (wrap64 (x17 + 1))) else (some (0,false)))) else (none)) else (none)) else (some (x5,true))
def impl_readAddress.f (k : Nat) (a0 : ByteArray) : Option (Int × Bool):=(strings_Split.f a0 (⟨#[46]⟩ : ByteArray)).bind fun t333 => (if (t333.length : Int) = 4 then (impl_readAddress.l0 k 0 t333 (t333.length : Int) 0) else (some (0,false)))
theorem impl_readAddress.mono_l : ∀ k,(∀ y0 y1 y2 y3,LeO (impl_readAddress.l0 k y0 y1 y2 y3) (impl_readAddress.l0 (k + 1) y0 y1 y2 y3))
 | 0 => fun _ _ _ _ r h => by simp [impl_readAddress.l0] at h
 | k + 1 => by
  have ih0:=impl_readAddress.mono_l k
  ·intro y0 y1 y2 y3
   unfold impl_readAddress.l0
   repeat' first
   | (with_reducible exact ih0 _ _ _ _)
   | (with_reducible exact LeO.refl _)
   | (with_reducible exact LeO.none _)
   | (with_reducible refine LeO.ite ?_ ?_)
   | (with_reducible refine LeO.bind ?_ (fun _ => ?_))
   | exact ih0 _ _ _ _
   | exact LeO.none _
   | refine LeO.ite ?_ ?_
   | refine LeO.bind ?_ (fun _ => ?_)
theorem impl_readAddress.mono : ∀ a0 k,LeO (impl_readAddress.f k a0) (impl_readAddress.f (k + 1) a0):=by
 intro a0 k
 have ih0:=impl_readAddress.mono_l k
 unfold impl_readAddress.f
 repeat' first
   | (with_reducible exact ih0 _ _ _ _)
   | (with_reducible exact LeO.refl _)
   | (with_reducible exact LeO.none _)
   | (with_reducible refine LeO.ite ?_ ?_)
   | (with_reducible refine LeO.bind ?_ (fun _ => ?_))
   | exact ih0 _ _ _ _
   | exact LeO.none _
   | refine LeO.ite ?_ ?_
   | refine LeO.bind ?_ (fun _ => ?_)
set_option maxHeartbeats 8000000 in
set_option maxRecDepth 100000 in
theorem impl_readAddress.calls (k : Nat) (a0 : ByteArray) (r1 : Int) (r2 : Bool) (w : World) (hGe : GLe w) (hGp : GLp w) (h : impl_readAddress.f k a0 = some (r1,r2)) :
  Calls Tryd.prog 47 #[.string a0] w fun e w' => e = .returned (.tuple #[.int .i64 r1,.bool r2]) ∧ Below w.heap.size w w':=by
 have HGe_:=aMk hGe
 have HGp_:=aMk hGp
 clear hGe hGp
 have HB:=aMk (Below.refl w.heap.size w)
 have H : ((strings_Split.f a0 (⟨#[46]⟩ : ByteArray)).bind fun t333 => (if (t333.length : Int) = 4 then (impl_readAddress.l0 k 0 t333 (t333.length : Int) 0) else (some (0,false)))) = some (r1,r2):=h
 clear h
 replace H:=Option.bind_eq_some_iff.mp H
 obtain ⟨t333,A20,H⟩:=H
 replace H : (if (t333.length : Int) = 4 then (impl_readAddress.l0 k 0 t333 (t333.length : Int) 0) else (some (0,false))) = some (r1,r2):=H
 have A2:=aMk A20
 clear A20
 by_cases c3 : (t333.length : Int) = 4
 ·rw [if_pos c3] at H
  have c3b0 : ((t333.length : Int) == 4) = true:=beq_iff_eq.mpr c3
  have c3b1 : ((t333.length : Int) != 4) = false:=bne_eq_false_iff_eq.mpr c3
  clear c3
  have H':=aMk H
  clear H
  go_enter Tryd.func47,Tryd.ntmps47
  go_wp2_with (first|((with_reducible refine gate_callee (f:=44) rfl ?_);refine goesL_ (some 11) rfl rfl Tryd.func44 (by kernel_rfl) rfl #[.string a0,.string (⟨#[46]⟩ : ByteArray)] rfl (by (try simp only [List.map_toArray,List.map_cons,List.map_nil]);first | done | rfl|(simp only [List.length_drop,List.length_take];rfl)) ?_;(with_reducible refine (strings_Split.calls a0 (⟨#[46]⟩ : ByteArray) t333 _ A2.out).mono ?_);rintro e w4 ⟨v334,rfl,ho0,hb⟩;refine ⟨_,rfl,?_⟩;have n0_:=aMk (Kd.R_lower ho0 (below_size (by repeat first|exact HB.out|apply bwA|apply bwN|apply bw1)));have n1_:=aMk (below_step (by repeat first|exact HB.out|apply bwA|apply bwN|apply bw1) hb);clear HB;have HO335:=n0_;have HB:=n1_;clear n0_ n1_;(try clear hb);(try clear hb2);(try clear hk);(try clear hi);(try clear ho0);obtain ⟨Ao5,co5,eo5⟩:=Kd.R_slice HO335.out;subst eo5))
  go_loopg [5,17] k (fun kq v5 v17 w' => ∃ (x5_1 : Int) (x17_1 : Int),v5 = .int .i64 x5_1 ∧ v17 = .int .i64 x17_1 ∧ Aside0 (impl_readAddress.l0 kq x5_1 t333 (t333.length : Int) x17_1 = some (r1,r2)) ∧ Aside0 (kq ≤ k) ∧ Aside0 (Kd.R Kd.string 9 w' w.heap.size (fun _ => True) (.slice Ao5 t333.length co5) t333) ∧ Aside0 (Below w.heap.size w w'))
  case atStart => exact ⟨(0),(0),(by first | rfl|(simp;done)|(simp [*];done)|(simp [ne_nil_b];done)|(simp [ne_nil_b, *];done)),(by first | rfl|(simp;done)|(simp [*];done)|(simp [ne_nil_b];done)|(simp [ne_nil_b, *];done)),H',⟨Nat.le_refl _⟩,⟨by (with_reducible repeat (first|apply Kd.R_alloc|apply Kd.R_drewN|apply Kd.R_drew));exact HO335.out⟩,⟨by repeat (first|(with_reducible first|exact HB.out|apply bwA|apply bwN|apply bw1)|exact HB.out)⟩⟩
  case round =>
   clear H'
   try clear p2
   try clear c3
   try clear c3b0
   try clear c3b1
   try clear c4
   obtain ⟨x5_1,x17_1,rfl,rfl,HA,HK1,HO_15,HB⟩:=hrel
   cases gk with
   | zero => exact absurd HA.out (by simp [impl_readAddress.l0])
   | succ k1 =>
    have H:=HA.out
    clear HA
    simp only [impl_readAddress.l0] at H
    by_cases c6 : x17_1 < (t333.length : Int)
    ·rw [if_pos c6] at H
     have c6b0 : decide (x17_1 < (t333.length : Int)) = true:=decide_eq_true c6
     clear c6
     by_cases c7 : 0 ≤ x17_1
     ·rw [if_pos c7] at H
      have c7b0 : decide (0 ≤ x17_1) = true:=decide_eq_true c7
      clear c7
      by_cases c8 : x17_1 < (t333.length : Int)
      ·rw [if_pos c8] at H
       have c8b0 : decide (x17_1 < (t333.length : Int)) = true:=decide_eq_true c8
       clear c8
       replace H:=Option.bind_eq_some_iff.mp H
       obtain ⟨⟨t337,t338⟩,A90,H⟩:=H
       replace H : (if t338 = true then (impl_readAddress.l0 k1 (wrap64 ((wrap64 (x5_1 * 256)) + t337)) t333 (t333.length : Int) (wrap64 (x17_1 + 1))) else (some (0,false))) = some (r1,r2):=H
       have A9:=aMk A90
       clear A90
       by_cases c10 : t338 = true
       ·subst c10
        have H1 : (impl_readAddress.l0 k1 (wrap64 ((wrap64 (x5_1 * 256)) + t337)) t333 (t333.length : Int) (wrap64 (x17_1 + 1))) = some (r1,r2):=by rw [if_pos rfl] at H;exact H
        clear H
        have H:=H1
        clear H1
        have H':=aMk H
        clear H
        have p336 : 0 ≤ (x17_1 : Int):=of_decide_eq_true (by first|(with_reducible assumption) | assumption)
        have q336 : x17_1 < (t333.length : Int):=of_decide_eq_true (by first|(with_reducible assumption) | assumption)
        obtain ⟨ad336,e336,hx336_0⟩:=Kd.at_string (Kd.R_reads' HO_15.out).2.2 x17_1 p336 q336
        cases e336
        replace p336:=eq_true p336
        replace q336:=eq_true q336
        go_wp2_with (first|((with_reducible refine gate_callee (f:=48) rfl ?_);refine goesL_ (some 23) rfl rfl Tryd.func48 (by kernel_rfl) rfl #[.string (rdOf ByteArray.empty t333 x17_1),.int .i64 0,.int .i64 255] rfl (by (try simp only [List.map_toArray,List.map_cons,List.map_nil]);first | done | rfl|(simp only [List.length_drop,List.length_take];rfl)) ?_;(with_reducible refine (impl_numberIn.calls (rdOf ByteArray.empty t333 x17_1) 0 255 t337 true _ ?sideGe ?sideGp A9.out).mono ?_);(case sideGe => exact GLe_below HGe_.out (by repeat (first|(with_reducible first|exact HB.out|apply bwA|apply bwN|apply bw1|refine below_set ?_ (Aside0.out (by assumption)))|exact HB.out)));(case sideGp => exact GLp_below HGp_.out (by repeat (first|(with_reducible first|exact HB.out|apply bwA|apply bwN|apply bw1|refine below_set ?_ (Aside0.out (by assumption)))|exact HB.out)));rintro e w11 ⟨rfl,hb⟩;refine ⟨_,rfl,?_⟩;have n0_:=aMk (Kd.R_below (by (with_reducible repeat (first|apply Kd.R_alloc|apply Kd.R_drewN|apply Kd.R_drew));exact HO_15.out) hb);have n1_:=aMk (below_step (by repeat first|exact HB.out|apply bwA|apply bwN|apply bw1) hb);clear HO_15;clear HB;have HO_15:=n0_;have HB:=n1_;clear n0_ n1_;(try clear hb);(try clear hb2);(try clear hk);(try clear hi)))
        go_roundg k1
        case measure => have:=HK1.out;omega
        case rel => exact ⟨(wrap64 ((wrap64 (x5_1 * 256)) + t337)),(wrap64 (x17_1 + 1)),(by first | rfl|(simp;done)|(simp [*];done)|(simp [ne_nil_b];done)|(simp [ne_nil_b, *];done)),(by first | rfl|(simp;done)|(simp [*];done)|(simp [ne_nil_b];done)|(simp [ne_nil_b, *];done)),H',⟨by have:=HK1.out;omega⟩,⟨by (with_reducible repeat (first|apply Kd.R_alloc|apply Kd.R_drewN|apply Kd.R_drew));exact HO_15.out⟩,⟨by repeat (first|(with_reducible first|exact HB.out|apply bwA|apply bwN|apply bw1)|exact HB.out)⟩⟩
       ·replace c10:=Bool.eq_false_iff.mpr c10
        subst c10
        have H1 : (some (0,false)) = some (r1,r2):=by rw [if_neg (show ¬ (false = true) by decide)] at H;exact H
        clear H
        have H:=H1
        clear H1
        simp only [Option.some.injEq,Prod.mk.injEq] at H
        obtain ⟨rfl,rfl⟩:=H
        have p336 : 0 ≤ (x17_1 : Int):=of_decide_eq_true (by first|(with_reducible assumption) | assumption)
        have q336 : x17_1 < (t333.length : Int):=of_decide_eq_true (by first|(with_reducible assumption) | assumption)
        obtain ⟨ad336,e336,hx336_0⟩:=Kd.at_string (Kd.R_reads' HO_15.out).2.2 x17_1 p336 q336
        cases e336
        replace p336:=eq_true p336
        replace q336:=eq_true q336
        go_wp2_with (first|((with_reducible refine gate_callee (f:=48) rfl ?_);refine goesL_ (some 23) rfl rfl Tryd.func48 (by kernel_rfl) rfl #[.string (rdOf ByteArray.empty t333 x17_1),.int .i64 0,.int .i64 255] rfl (by (try simp only [List.map_toArray,List.map_cons,List.map_nil]);first | done | rfl|(simp only [List.length_drop,List.length_take];rfl)) ?_;(with_reducible refine (impl_numberIn.calls (rdOf ByteArray.empty t333 x17_1) 0 255 t337 false _ ?sideGe ?sideGp A9.out).mono ?_);(case sideGe => exact GLe_below HGe_.out (by repeat (first|(with_reducible first|exact HB.out|apply bwA|apply bwN|apply bw1|refine below_set ?_ (Aside0.out (by assumption)))|exact HB.out)));(case sideGp => exact GLp_below HGp_.out (by repeat (first|(with_reducible first|exact HB.out|apply bwA|apply bwN|apply bw1|refine below_set ?_ (Aside0.out (by assumption)))|exact HB.out)));rintro e w12 ⟨rfl,hb⟩;refine ⟨_,rfl,?_⟩;have n0_:=aMk (Kd.R_below (by (with_reducible repeat (first|apply Kd.R_alloc|apply Kd.R_drewN|apply Kd.R_drew));exact HO_15.out) hb);have n1_:=aMk (below_step (by repeat first|exact HB.out|apply bwA|apply bwN|apply bw1) hb);clear HO_15;clear HB;have HO_15:=n0_;have HB:=n1_;clear n0_ n1_;(try clear hb);(try clear hb2);(try clear hk);(try clear hi)))
        go_ret2
        exact ⟨by first | rfl|(simp [errW_none,errW_some] <;> rfl)|(simp [*,errW_none,errW_some] <;> rfl),by repeat (first|(with_reducible first|exact HB.out|apply bwA|apply bwN|apply bw1)|exact HB.out)⟩
      ·rw [if_neg c8] at H
       exact absurd H (by simp)
     ·rw [if_neg c7] at H
      exact absurd H (by simp)
    ·rw [if_neg c6] at H
     have c6b0 : decide (x17_1 < (t333.length : Int)) = false:=decide_eq_false c6
     clear c6
     simp only [Option.some.injEq,Prod.mk.injEq] at H
     obtain ⟨rfl,rfl⟩:=H
     go_wp2
     go_ret2
     exact ⟨by first | rfl|(simp [errW_none,errW_some] <;> rfl)|(simp [*,errW_none,errW_some] <;> rfl),by repeat (first|(with_reducible first|exact HB.out|apply bwA|apply bwN|apply bw1)|exact HB.out)⟩
 ·rw [if_neg c3] at H
  have c3b0 : ((t333.length : Int) == 4) = false:=beq_eq_false_iff_ne.mpr c3
  have c3b1 : ((t333.length : Int) != 4) = true:=bne_iff_ne.mpr c3
  simp only [Option.some.injEq,Prod.mk.injEq] at H
  obtain ⟨rfl,rfl⟩:=H
  go_enter Tryd.func47,Tryd.ntmps47
  go_wp2_with (first|((with_reducible refine gate_callee (f:=44) rfl ?_);refine goesL_ (some 11) rfl rfl Tryd.func44 (by kernel_rfl) rfl #[.string a0,.string (⟨#[46]⟩ : ByteArray)] rfl (by (try simp only [List.map_toArray,List.map_cons,List.map_nil]);first | done | rfl|(simp only [List.length_drop,List.length_take];rfl)) ?_;(with_reducible refine (strings_Split.calls a0 (⟨#[46]⟩ : ByteArray) t333 _ A2.out).mono ?_);rintro e w13 ⟨v334,rfl,ho0,hb⟩;refine ⟨_,rfl,?_⟩;have n0_:=aMk (Kd.R_lower ho0 (below_size (by repeat first|exact HB.out|apply bwA|apply bwN|apply bw1)));have n1_:=aMk (below_step (by repeat first|exact HB.out|apply bwA|apply bwN|apply bw1) hb);clear HB;have HO335:=n0_;have HB:=n1_;clear n0_ n1_;(try clear hb);(try clear hb2);(try clear hk);(try clear hi);(try clear ho0);obtain ⟨Ao14,co14,eo14⟩:=Kd.R_slice HO335.out;subst eo14))
  go_ret2
  exact ⟨by first | rfl|(simp [errW_none,errW_some] <;> rfl)|(simp [*,errW_none,errW_some] <;> rfl),by repeat (first|(with_reducible first|exact HB.out|apply bwA|apply bwN|apply bw1)|exact HB.out)⟩
end
section
/-! ### impl_readNet: function 26 -/
def impl_readNet.f (k : Nat) (a0 : ByteArray) : Option (Int × Int × Bool):=(strings_Cut.f a0 (⟨#[47]⟩ : ByteArray)).bind fun bt340 => ((impl_readAddress.f k bt340.1).bind fun bt343 => ((impl_numberIn.f bt340.2.1 0 32).bind fun bt345 => (if bt340.2.2 = true then (if bt343.2 = true then (if bt345.2 = true then ((impl_NetOK.f bt343.1 bt345.1).bind fun t348 => (some (bt343.1,bt345.1,t348))) else (some (bt343.1,bt345.1,false))) else (some (bt343.1,bt345.1,false))) else (some (bt343.1,bt345.1,false)))))
theorem impl_readNet.mono : ∀ a0 k,LeO (impl_readNet.f k a0) (impl_readNet.f (k + 1) a0):=by
 intro a0 k
 unfold impl_readNet.f
 repeat' first
   | (with_reducible exact impl_readAddress.mono ..)
   | (with_reducible exact LeO.refl _)
   | (with_reducible exact LeO.none _)
   | (with_reducible refine LeO.ite ?_ ?_)
   | (with_reducible refine LeO.bind ?_ (fun _ => ?_))
   | exact impl_readAddress.mono ..
   | exact LeO.none _
   | refine LeO.ite ?_ ?_
   | refine LeO.bind ?_ (fun _ => ?_)
def impl_readNet.T5 : Bool × List (List Nat × List Nat):=(true,[([],[]),([],[]),([1],[1]),([2],[2]),([2,3],[2,3]),([4,2],[4]),([5],[5]),([5,6],[5,6]),([7,5],[7]),([8],[8]),([9,8,8],[8,9]),([8,10],[8,10]),([0,10,0],[0]),([11,12,0,1,2,3,4,5,6,7,8,9,10,11,12],[11])])
def impl_readNet.B5 : List Nat:=[0,0,2,6,14,30,62,126,254,510,1022,2046,2047,8191]
theorem impl_readNet.tab5 : rtab .any (opsOf Tryd.f26 5) = impl_readNet.T5:=by kernel_rfl
theorem impl_readNet.bits5 : waitsOk impl_readNet.T5.2 impl_readNet.B5 = true:=by kernel_rfl
set_option maxHeartbeats 8000000 in
set_option maxRecDepth 100000 in
theorem impl_readNet.calls (k : Nat) (a0 : ByteArray) (r1 : Int) (r2 : Int) (r3 : Bool) (w : World) (hGe : GLe w) (hGp : GLp w) (h : impl_readNet.f k a0 = some (r1,r2,r3)) :
  Calls Tryd.prog 26 #[.string a0] w fun e w' => e = .returned (.tuple #[.agg #[.int .i64 r1,.int .i64 r2],.bool r3]) ∧ Below w.heap.size w w':=by
 have HGe_:=aMk hGe
 have HGp_:=aMk hGp
 clear hGe hGp
 have hu30:=Tryd.underlying30
 have HB:=aMk (Below.refl w.heap.size w)
 have H : ((strings_Cut.f a0 (⟨#[47]⟩ : ByteArray)).bind fun bt340 => ((impl_readAddress.f k bt340.1).bind fun bt343 => ((impl_numberIn.f bt340.2.1 0 32).bind fun bt345 => (if bt340.2.2 = true then (if bt343.2 = true then (if bt345.2 = true then ((impl_NetOK.f bt343.1 bt345.1).bind fun t348 => (some (bt343.1,bt345.1,t348))) else (some (bt343.1,bt345.1,false))) else (some (bt343.1,bt345.1,false))) else (some (bt343.1,bt345.1,false)))))) = some (r1,r2,r3):=h
 clear h
 replace H:=Option.bind_eq_some_iff.mp H
 obtain ⟨⟨t340,t341,t342⟩,A20,H⟩:=H
 replace H : ((impl_readAddress.f k t340).bind fun bt343 => ((impl_numberIn.f t341 0 32).bind fun bt345 => (if t342 = true then (if bt343.2 = true then (if bt345.2 = true then ((impl_NetOK.f bt343.1 bt345.1).bind fun t348 => (some (bt343.1,bt345.1,t348))) else (some (bt343.1,bt345.1,false))) else (some (bt343.1,bt345.1,false))) else (some (bt343.1,bt345.1,false))))) = some (r1,r2,r3):=H
 have A2:=aMk A20
 clear A20
 replace H:=Option.bind_eq_some_iff.mp H
 obtain ⟨⟨t343,t344⟩,A30,H⟩:=H
 replace H : ((impl_numberIn.f t341 0 32).bind fun bt345 => (if t342 = true then (if t344 = true then (if bt345.2 = true then ((impl_NetOK.f t343 bt345.1).bind fun t348 => (some (t343,bt345.1,t348))) else (some (t343,bt345.1,false))) else (some (t343,bt345.1,false))) else (some (t343,bt345.1,false)))) = some (r1,r2,r3):=H
 have A3:=aMk A30
 clear A30
 replace H:=Option.bind_eq_some_iff.mp H
 obtain ⟨⟨t345,t346⟩,A40,H⟩:=H
 replace H : (if t342 = true then (if t344 = true then (if t346 = true then ((impl_NetOK.f t343 t345).bind fun t348 => (some (t343,t345,t348))) else (some (t343,t345,false))) else (some (t343,t345,false))) else (some (t343,t345,false))) = some (r1,r2,r3):=H
 have A4:=aMk A40
 clear A40
 by_cases c5 : t342 = true
 ·subst c5
  have H1 : (if t344 = true then (if t346 = true then ((impl_NetOK.f t343 t345).bind fun t348 => (some (t343,t345,t348))) else (some (t343,t345,false))) else (some (t343,t345,false))) = some (r1,r2,r3):=by rw [if_pos rfl] at H;exact H
  clear H
  have H:=H1
  clear H1
  by_cases c6 : t344 = true
  ·subst c6
   have H1 : (if t346 = true then ((impl_NetOK.f t343 t345).bind fun t348 => (some (t343,t345,t348))) else (some (t343,t345,false))) = some (r1,r2,r3):=by rw [if_pos rfl] at H;exact H
   clear H
   have H:=H1
   clear H1
   by_cases c7 : t346 = true
   ·subst c7
    have H1 : ((impl_NetOK.f t343 t345).bind fun t348 => (some (t343,t345,t348))) = some (r1,r2,r3):=by rw [if_pos rfl] at H;exact H
    clear H
    have H:=H1
    clear H1
    replace H:=Option.bind_eq_some_iff.mp H
    obtain ⟨t348,A80,H⟩:=H
    replace H : (some (t343,t345,t348)) = some (r1,r2,r3):=H
    have A8:=aMk A80
    clear A80
    simp only [Option.some.injEq,Prod.mk.injEq] at H
    obtain ⟨rfl,rfl,rfl⟩:=H
    go_enter Tryd.func26,Tryd.ntmps26
    try go_wp2_with (first|((with_reducible refine gate_dst (N:=2) rfl ?_);refine box_event ?hg (N:=2) ?hd (cs:=#[.int .i64 0,.int .i64 0]) (t:=30) ?hr ?_;(case hd => rfl);(case hg => rfl);(case hr => first|(go_simp;done)|(go_simp;rfl));intro gb339 hg w9 hbox hb;have n0_:=aMk (below_step (by repeat first|exact HB.out|apply bwA|apply bwN|apply bw1) hb);have n1_:=aMk (hbox);have n2_:=aMk ((by rw [hg];exact (below_size (by repeat first|exact HB.out|apply bwA|apply bwN|apply bw1)) : w.heap.size ≤ gb339));have n3_:=aMk ((by rw [hg];exact (below_size (by repeat first|exact HB.out|apply bwA|apply bwN|apply bw1)) : w.heap.size ≤ gb339));clear HB;have HB:=n0_;have BK339:=n1_;have GW339:=n2_;have GE339:=n3_;clear n0_ n1_ n2_ n3_;clear hb hbox hg)|((with_reducible refine gate_callee (f:=46) rfl ?_);refine goesL_ (some 14) rfl rfl Tryd.func46 (by kernel_rfl) rfl #[.string a0,.string (⟨#[47]⟩ : ByteArray)] rfl (by (try simp only [List.map_toArray,List.map_cons,List.map_nil]);first | done | rfl|(simp only [List.length_drop,List.length_take];rfl)) ?_;(with_reducible refine (strings_Cut.calls a0 (⟨#[47]⟩ : ByteArray) t340 t341 true _ A2.out).mono ?_);rintro e w' ⟨rfl,⟨nd,rfl⟩⟩;refine ⟨_,rfl,?_⟩;(try (rw [drewN_self w9];generalize hq_ : World.drewN w9 _ = w9;have n0_ : Aside0 (w9.heap[gb339]? = some (.cells #[.int .i64 0,.int .i64 0] 30 (0,0))):=⟨by rw [← hq_];exact (by (with_reducible repeat (first|refine bDn ?_ _|refine bDr ?_|refine bAl ?_ _));exact BK339.out)⟩;have n1_ : Aside0 (Below w.heap.size w w9):=⟨by rw [← hq_];exact (by repeat (first|(with_reducible first|exact HB.out|apply bwA|apply bwN|apply bw1|refine below_set ?_ GE339.out)|exact HB.out))⟩;clear BK339 HB hq_;have BK339:=n0_;have HB:=n1_;clear n0_ n1_)))|((with_reducible refine gate_callee (f:=47) rfl ?_);refine goesL_ (some 20) rfl rfl Tryd.func47 (by kernel_rfl) rfl #[.string t340] rfl (by (try simp only [List.map_toArray,List.map_cons,List.map_nil]);first | done | rfl|(simp only [List.length_drop,List.length_take];rfl)) ?_;(with_reducible refine (impl_readAddress.calls k t340 t343 true _ ?sideGe ?sideGp A3.out).mono ?_);(case sideGe => exact GLe_below HGe_.out (by repeat (first|(with_reducible first|exact HB.out|apply bwA|apply bwN|apply bw1|refine below_set ?_ (Aside0.out (by assumption)))|exact HB.out)));(case sideGp => exact GLp_below HGp_.out (by repeat (first|(with_reducible first|exact HB.out|apply bwA|apply bwN|apply bw1|refine below_set ?_ (Aside0.out (by assumption)))|exact HB.out)));rintro e w10 ⟨rfl,hb⟩;refine ⟨_,rfl,?_⟩;have n0_:=aMk (blk_below (g:=gb339) (o:=.cells #[.int .i64 0,.int .i64 0] 30 (0,0)) (by (with_reducible repeat (first|refine bDn ?_ _|refine bDr ?_|refine bAl ?_ _));exact BK339.out) hb);have n1_:=aMk (below_step (by repeat (first|(with_reducible first|exact HB.out|apply bwA|apply bwN|apply bw1|refine below_set ?_ GE339.out)|exact HB.out)) hb);clear BK339;clear HB;have BK339:=n0_;have HB:=n1_;clear n0_ n1_;(try clear hb);(try clear hb2);(try clear hk);(try clear hi))|((with_reducible refine gate_callee (f:=48) rfl ?_);refine goesL_ (some 25) rfl rfl Tryd.func48 (by kernel_rfl) rfl #[.string t341,.int .i64 0,.int .i64 32] rfl (by (try simp only [List.map_toArray,List.map_cons,List.map_nil]);first | done | rfl|(simp only [List.length_drop,List.length_take];rfl)) ?_;(with_reducible refine (impl_numberIn.calls t341 0 32 t345 true _ ?sideGe ?sideGp A4.out).mono ?_);(case sideGe => exact GLe_below HGe_.out (by repeat (first|(with_reducible first|exact HB.out|apply bwA|apply bwN|apply bw1|refine below_set ?_ (Aside0.out (by assumption)))|exact HB.out)));(case sideGp => exact GLp_below HGp_.out (by repeat (first|(with_reducible first|exact HB.out|apply bwA|apply bwN|apply bw1|refine below_set ?_ (Aside0.out (by assumption)))|exact HB.out)));rintro e w11 ⟨rfl,hb⟩;refine ⟨_,rfl,?_⟩;have n0_:=aMk (blk_below (g:=gb339) (o:=.cells #[.int .i64 0,.int .i64 0] 30 (0,0)) (by (with_reducible repeat (first|refine bDn ?_ _|refine bDr ?_|refine bAl ?_ _));exact BK339.out) hb);have n1_:=aMk (below_step (by repeat (first|(with_reducible first|exact HB.out|apply bwA|apply bwN|apply bw1|refine below_set ?_ GE339.out)|exact HB.out)) hb);clear BK339;clear HB;have BK339:=n0_;have HB:=n1_;clear n0_ n1_;(try clear hb);(try clear hb2);(try clear hk);(try clear hi))|((with_reducible refine gate_dst (N:=11) rfl ?_);refine box_event ?hg (N:=11) ?hd (cs:=#[.int .i64 0,.int .i64 0]) (t:=30) ?hr ?_;(case hd => rfl);(case hg => rfl);(case hr => first|(go_simp;done)|(go_simp;rfl));intro gb347 hg w12 hbox hb;have n0_:=aMk (blk_below (g:=gb339) (o:=.cells #[.int .i64 0,.int .i64 0] 30 (0,0)) (by (with_reducible repeat (first|refine bDn ?_ _|refine bDr ?_|refine bAl ?_ _));exact BK339.out) hb);have n1_:=aMk (below_step (by repeat (first|(with_reducible first|exact HB.out|apply bwA|apply bwN|apply bw1|refine below_set ?_ GE339.out)|exact HB.out)) hb);have n2_:=aMk (hbox);have n3_:=aMk ((by rw [hg];exact (below_size (by repeat (first|(with_reducible first|exact HB.out|apply bwA|apply bwN|apply bw1|refine below_set ?_ GE339.out)|exact HB.out))) : w.heap.size ≤ gb347));have n4_:=aMk ((by rw [hg];exact (below_size (by repeat (first|(with_reducible first|exact HB.out|apply bwA|apply bwN|apply bw1|refine below_set ?_ GE339.out)|exact HB.out))) : w.heap.size ≤ gb347));have n5_:=aMk ((by rw [hg];exact Nat.ne_of_lt (blk_lt (g:=gb339) (o:=.cells #[.int .i64 0,.int .i64 0] 30 (0,0)) (by (with_reducible repeat (first|refine bDn ?_ _|refine bDr ?_|refine bAl ?_ _));exact BK339.out)) : gb339 ≠ gb347));have n6_:=aMk ((by rw [hg];exact Nat.ne_of_gt (blk_lt (g:=gb339) (o:=.cells #[.int .i64 0,.int .i64 0] 30 (0,0)) (by (with_reducible repeat (first|refine bDn ?_ _|refine bDr ?_|refine bAl ?_ _));exact BK339.out)) : gb347 ≠ gb339));clear BK339;clear HB;have BK339:=n0_;have HB:=n1_;have BK347:=n2_;have GW347:=n3_;have GE347:=n4_;have NB339_347:=n5_;have NB347_339:=n6_;clear n0_ n1_ n2_ n3_ n4_ n5_ n6_;clear hb hbox hg;have hnb13:=NB347_339.out;have hnc13:=NB339_347.out;have hcz14_0 : w12.cell? ⟨gb347,0,none⟩ = some (.int .i64 0):=(bCe BK347.out 0).trans rfl;have hcz14_1 : w12.cell? ⟨gb347,1,none⟩ = some (.int .i64 0):=(bCe BK347.out 1).trans rfl;have hfz14_0:=bFr BK347.out 0;have hfz14_1:=bFr BK347.out 1))
    (try (repeat rw [show ∀ (w_ : World) (n_ : Nat) (a_ : Addr) (v_ : Value),(w_.drewN n_).setCell a_ v_ = (w_.setCell a_ v_).drewN n_ from fun _ _ _ _ => rfl]));(try (repeat rw [World.drewN_drewN]))
    have n0_ : Aside0 (((w12.setCell ⟨gb347,0,none⟩ (.int .i64 t343)).setCell ⟨gb347,1,none⟩ (.int .i64 t345)).heap[gb339]? = some (.cells #[.int .i64 0,.int .i64 0] 30 (0,0))):=⟨by (with_reducible repeat (first|refine bDn ?_ _|refine bDr ?_|refine bAl ?_ _));refine blk_far ?_ NB339_347.out _;(with_reducible repeat (first|refine bDn ?_ _|refine bDr ?_|refine bAl ?_ _));refine blk_far ?_ NB339_347.out _;(with_reducible repeat (first|refine bDn ?_ _|refine bDr ?_|refine bAl ?_ _));exact BK339.out⟩
    have n1_ : Aside0 (((w12.setCell ⟨gb347,0,none⟩ (.int .i64 t343)).setCell ⟨gb347,1,none⟩ (.int .i64 t345)).heap[gb347]? = some (.cells #[.int .i64 t343,.int .i64 t345] 30 (0,0))):=⟨by (with_reducible repeat (first|refine bDn ?_ _|refine bDr ?_|refine bAl ?_ _));refine blk_put (cs:=#[.int .i64 t343,.int .i64 0]) ?_ 1 _ rfl;(with_reducible repeat (first|refine bDn ?_ _|refine bDr ?_|refine bAl ?_ _));refine blk_put (cs:=#[.int .i64 0,.int .i64 0]) ?_ 0 _ rfl;(with_reducible repeat (first|refine bDn ?_ _|refine bDr ?_|refine bAl ?_ _));exact BK347.out⟩
    have n2_ : Aside0 (Below w.heap.size w ((w12.setCell ⟨gb347,0,none⟩ (.int .i64 t343)).setCell ⟨gb347,1,none⟩ (.int .i64 t345))):=⟨by repeat (first|(with_reducible first|exact HB.out|apply bwA|apply bwN|apply bw1|refine below_set ?_ GE339.out|refine below_set ?_ GE347.out)|exact HB.out)⟩
    (try clear BK339)
    (try clear BK347)
    (try clear HB)
    generalize ((w12.setCell ⟨gb347,0,none⟩ (.int .i64 t343)).setCell ⟨gb347,1,none⟩ (.int .i64 t345)) = w15 at n0_ n1_ n2_ ⊢
    have BK339:=n0_
    have BK347:=n1_
    have HB:=n2_
    clear n0_ n1_ n2_
    have n0_:=aMk (bDr BK339.out)
    have n1_:=aMk (bDr BK347.out)
    have n2_:=aMk (bw1 HB.out)
    clear BK339
    clear BK347
    clear HB
    have BK339:=n0_
    have BK347:=n1_
    have HB:=n2_
    clear n0_ n1_ n2_
    refine start_ (n:=14) (S:=fun w' => w'.cell? ⟨gb347,0,none⟩ = some (.int .i64 t343) ∧ w'.cell? ⟨gb347,1,none⟩ = some (.int .i64 t345)) (ds:=[]) #[false,false,false,false,false,false,false,false,false,false,false,false,false,false] (by kernel_rfl) rfl rfl ⟨(bCe BK347.out 0).trans rfl,(bCe BK347.out 1).trans rfl⟩ (fun hHeld => ?_);refine with_tabW impl_readNet.tab5 impl_readNet.bits5 (fun HT_ HW_ => ?_)
    generalize w15.drew = w16 at BK339 BK347 HB hHeld ⊢
    refine pure_ (i:=1) (N:=some 32) (v:=?_) (a':=?_) #[false,true,false,false,false,false,false,false,false,false,false,false,false,false] rfl rfl (any_of HT_.out (by kernel_rfl)) (fun _ _ _ h => h) (Or.inl ⟨by rfl,?_⟩) ?_ ?_
    rotate_left
    ·intro w'
     go_simp
     with_reducible rfl
    rotate_left
    ·simp only [Act.put,List.setIfInBounds_toArray,List.set_cons_zero,List.set_cons_succ,i64_w,i32_w]
     rfl
    refine pure_ (i:=2) (N:=some 33) (v:=?_) (a':=?_) #[false,true,true,false,false,false,false,false,false,false,false,false,false,false] rfl rfl (any_of HT_.out (by kernel_rfl)) (fun _ _ _ h => h) (Or.inl ⟨by rfl,?_⟩) ?_ ?_
    rotate_left
    ·intro w'
     go_simp
     with_reducible rfl
    rotate_left
    ·simp only [Act.put,List.setIfInBounds_toArray,List.set_cons_zero,List.set_cons_succ,i64_w,i32_w]
     rfl
    refine pure_ (i:=3) (N:=some 34) (v:=?_) (a':=?_) #[false,true,true,true,false,false,false,false,false,false,false,false,false,false] rfl rfl (any_of HT_.out (by kernel_rfl)) (fun _ _ _ h => h) (Or.inl ⟨by rfl,?_⟩) ?_ ?_
    rotate_left
    ·intro w'
     go_simp
     with_reducible rfl
    rotate_left
    ·simp only [Act.put,List.setIfInBounds_toArray,List.set_cons_zero,List.set_cons_succ,i64_w,i32_w]
     rfl
    refine pure_ (i:=4) (N:=some 35) (v:=?_) (a':=?_) #[false,true,true,true,true,false,false,false,false,false,false,false,false,false] rfl rfl (any_of HT_.out (by kernel_rfl)) (fun _ _ _ h => h) (Or.inl ⟨by rfl,?_⟩) ?_ ?_
    rotate_left
    ·intro w'
     go_simp
     with_reducible rfl
    rotate_left
    ·simp only [Act.put,List.setIfInBounds_toArray,List.set_cons_zero,List.set_cons_succ,i64_w,i32_w]
     rfl
    refine pure_ (i:=5) (N:=some 36) (v:=?_) (a':=?_) #[false,true,true,true,true,true,false,false,false,false,false,false,false,false] rfl rfl (any_of HT_.out (by kernel_rfl)) (fun _ _ _ h => h) (Or.inl ⟨by rfl,?_⟩) ?_ ?_
    rotate_left
    ·intro w'
     go_simp
     with_reducible rfl
    rotate_left
    ·simp only [Act.put,List.setIfInBounds_toArray,List.set_cons_zero,List.set_cons_succ,i64_w,i32_w]
     rfl
    refine pure_ (i:=6) (N:=some 37) (v:=?_) (a':=?_) #[false,true,true,true,true,true,true,false,false,false,false,false,false,false] rfl rfl (any_of HT_.out (by kernel_rfl)) (fun _ _ _ h => h) (Or.inl ⟨by rfl,?_⟩) ?_ ?_
    rotate_left
    ·intro w'
     go_simp
     with_reducible rfl
    rotate_left
    ·simp only [Act.put,List.setIfInBounds_toArray,List.set_cons_zero,List.set_cons_succ,i64_w,i32_w]
     rfl
    refine pure_ (i:=7) (N:=some 38) (v:=?_) (a':=?_) #[false,true,true,true,true,true,true,true,false,false,false,false,false,false] rfl rfl (any_of HT_.out (by kernel_rfl)) (fun _ _ _ h => h) (Or.inl ⟨by rfl,?_⟩) ?_ ?_
    rotate_left
    ·intro w'
     go_simp
     with_reducible rfl
    rotate_left
    ·simp only [Act.put,List.setIfInBounds_toArray,List.set_cons_zero,List.set_cons_succ,i64_w,i32_w]
     rfl
    refine pure_ (i:=8) (N:=some 39) (v:=?_) (a':=?_) #[false,true,true,true,true,true,true,true,true,false,false,false,false,false] rfl rfl (any_of HT_.out (by kernel_rfl)) (fun _ _ _ h => h) (Or.inl ⟨by rfl,?_⟩) ?_ ?_
    rotate_left
    ·intro w'
     go_simp
     with_reducible rfl
    rotate_left
    ·simp only [Act.put,List.setIfInBounds_toArray,List.set_cons_zero,List.set_cons_succ,i64_w,i32_w]
     rfl
    refine take_ (i:=0) (N:=some 31) (v:=?_) (a':=?_) #[true,true,true,true,true,true,true,true,true,false,false,false,false,false] rfl rfl (take_ofW HT_.out HW_.out (by kernel_rfl)) (fun _ _ _ h => h) (Or.inl ⟨by rfl,?_⟩) hHeld ?_ ?_
    rotate_left
    ·rintro w' ⟨s0,s1⟩
     go_simp
     with_reducible rfl
    rotate_left
    ·simp only [Act.put,List.setIfInBounds_toArray,List.set_cons_zero,List.set_cons_succ,i64_w,i32_w]
     rfl
    refine take_ (i:=9) (N:=some 40) (v:=?_) (a':=?_) #[true,true,true,true,true,true,true,true,true,true,false,false,false,false] rfl rfl (take_ofW HT_.out HW_.out (by kernel_rfl)) (fun _ _ _ h => h) (Or.inl ⟨by rfl,?_⟩) hHeld ?_ ?_
    rotate_left
    ·rintro w' ⟨s0,s1⟩
     go_simp
     with_reducible rfl
    rotate_left
    ·simp only [Act.put,List.setIfInBounds_toArray,List.set_cons_zero,List.set_cons_succ,i64_w,i32_w]
     rfl
    refine one_ (i:=10) (N:=some 41) #[true,true,true,true,true,true,true,true,true,true,true,false,false,false] rfl rfl (one_of HT_.out (by kernel_rfl)) (by decide) (fun K hK => ?_)
    refine goes_ Tryd.func33 (by kernel_rfl) rfl #[.agg #[.int .i64 t343,.int .i64 t345]] (by rfl) rfl rfl (by (try simp only [List.map_toArray,List.map_cons,List.map_nil]);first | done | rfl|(simp only [List.length_drop,List.length_take];rfl)) ?_
    with_reducible refine (impl_NetOK.calls t343 t345 t348 _ A8.out).mono ?_
    rintro e w17 ⟨rfl,hb⟩
    refine ⟨_,rfl,?_⟩
    have n0_:=aMk (blk_below (g:=gb339) (o:=.cells #[.int .i64 0,.int .i64 0] 30 (0,0)) (by (with_reducible repeat (first|refine bDn ?_ _|refine bDr ?_|refine bAl ?_ _));exact BK339.out) hb)
    have n1_:=aMk (blk_below (g:=gb347) (o:=.cells #[.int .i64 t343,.int .i64 t345] 30 (0,0)) (by (with_reducible repeat (first|refine bDn ?_ _|refine bDr ?_|refine bAl ?_ _));exact BK347.out) hb)
    have n2_:=aMk (below_step (by repeat (first|(with_reducible first|exact HB.out|apply bwA|apply bwN|apply bw1|refine below_set ?_ GE339.out|refine below_set ?_ GE347.out)|exact HB.out)) hb)
    clear BK339
    clear BK347
    clear HB
    have BK339:=n0_
    have BK347:=n1_
    have HB:=n2_
    clear n0_ n1_ n2_
    (try clear hb)
    (try clear hb2)
    (try clear hk)
    (try clear hi)
    refine hK.out _ _ ⟨(bCe BK347.out 0).trans rfl,(bCe BK347.out 1).trans rfl⟩ (fun hHeld => ?_)
    clear hK K
    refine norm_ (a':=?_) ?_ ?_
    rotate_left
    ·show Act.put _ (some 41) _ = _
     simp only [Act.put,List.setIfInBounds_toArray,List.set_cons_zero,List.set_cons_succ,i64_w,i32_w]
     rfl
    refine pure_ (i:=11) (N:=some 42) (v:=?_) (a':=?_) #[true,true,true,true,true,true,true,true,true,true,true,true,false,false] rfl rfl (any_of HT_.out (by kernel_rfl)) (fun _ _ _ h => h) (Or.inl ⟨by rfl,?_⟩) ?_ ?_
    rotate_left
    ·intro w'
     go_simp
     with_reducible rfl
    rotate_left
    ·simp only [Act.put,List.setIfInBounds_toArray,List.set_cons_zero,List.set_cons_succ,i64_w,i32_w]
     rfl
    refine one_ (i:=12) (N:=none) #[true,true,true,true,true,true,true,true,true,true,true,true,true,false] rfl rfl (one_of HT_.out (by kernel_rfl)) (by decide) (fun K hK => ?_)
    have hs18 : w17.cell? ⟨gb339,0,none⟩ = some (.int .i64 0):=(bCe BK339.out 0).trans rfl
    have hfs18:=bFr BK339.out 0
    have hns18_1:=NB347_339.out
    have hms18_1:=NB339_347.out
    have hs19 : w17.cell? ⟨gb339,1,none⟩ = some (.int .i64 0):=(bCe BK339.out 1).trans rfl
    have hfs19:=bFr BK339.out 1
    have hns19_1:=NB347_339.out
    have hms19_1:=NB339_347.out
    refine skip_ (w1:=?_) (by rfl) rfl ?_ ?_
    rotate_left
    ·go_simp
     rfl
    refine hK.out _ _ ⟨((cell_far (p:=⟨gb339,_,none⟩) NB347_339.out _).trans (((cell_far (p:=⟨gb339,_,none⟩) NB347_339.out _).trans (hHeld.1)))),((cell_far (p:=⟨gb339,_,none⟩) NB347_339.out _).trans (((cell_far (p:=⟨gb339,_,none⟩) NB347_339.out _).trans (hHeld.2))))⟩ (fun hHeld => ?_)
    clear hK K
    refine pure_ (i:=13) (N:=some 3) (v:=?_) (a':=?_) #[true,true,true,true,true,true,true,true,true,true,true,true,true,true] rfl rfl (any_of HT_.out (by kernel_rfl)) (fun _ _ _ h => h) (Or.inl ⟨by rfl,?_⟩) ?_ ?_
    rotate_left
    ·intro w'
     go_simp
     with_reducible rfl
    rotate_left
    ·simp only [Act.put,List.setIfInBounds_toArray,List.set_cons_zero,List.set_cons_succ,i64_w,i32_w]
     rfl
    refine done_ (done_of HT_.out (by kernel_rfl)) ?_
    try go_wp2
    refine bodyPost_ret (results_ct rfl _ _ gb339 30 #[.int .i64 t343,.int .i64 t345] (0,0) _ rfl (by (with_reducible repeat (first|refine bDn ?_ _|refine bDr ?_|refine bAl ?_ _));refine blk_put (cs:=#[.int .i64 t343,.int .i64 0]) ?_ 1 _ rfl;(with_reducible repeat (first|refine bDn ?_ _|refine bDr ?_|refine bAl ?_ _));refine blk_put (cs:=#[.int .i64 0,.int .i64 0]) ?_ 0 _ rfl;(with_reducible repeat (first|refine bDn ?_ _|refine bDr ?_|refine bAl ?_ _));exact BK339.out) Tryd.underlying30 rfl (by kernel_rfl)) rfl ?_
    exact ⟨by first | rfl|(simp [errW_none,errW_some] <;> rfl)|(simp [*,errW_none,errW_some] <;> rfl),by repeat (first|(with_reducible first|exact HB.out|apply bwA|apply bwN|apply bw1|refine below_set ?_ GE339.out|refine below_set ?_ GE347.out)|exact HB.out)⟩
   ·replace c7:=Bool.eq_false_iff.mpr c7
    subst c7
    have H1 : (some (t343,t345,false)) = some (r1,r2,r3):=by rw [if_neg (show ¬ (false = true) by decide)] at H;exact H
    clear H
    have H:=H1
    clear H1
    simp only [Option.some.injEq,Prod.mk.injEq] at H
    obtain ⟨rfl,rfl,rfl⟩:=H
    go_enter Tryd.func26,Tryd.ntmps26
    try go_wp2_with (first|((with_reducible refine gate_dst (N:=2) rfl ?_);refine box_event ?hg (N:=2) ?hd (cs:=#[.int .i64 0,.int .i64 0]) (t:=30) ?hr ?_;(case hd => rfl);(case hg => rfl);(case hr => first|(go_simp;done)|(go_simp;rfl));intro gb339 hg w20 hbox hb;have n0_:=aMk (below_step (by repeat first|exact HB.out|apply bwA|apply bwN|apply bw1) hb);have n1_:=aMk (hbox);have n2_:=aMk ((by rw [hg];exact (below_size (by repeat first|exact HB.out|apply bwA|apply bwN|apply bw1)) : w.heap.size ≤ gb339));have n3_:=aMk ((by rw [hg];exact (below_size (by repeat first|exact HB.out|apply bwA|apply bwN|apply bw1)) : w.heap.size ≤ gb339));clear HB;have HB:=n0_;have BK339:=n1_;have GW339:=n2_;have GE339:=n3_;clear n0_ n1_ n2_ n3_;clear hb hbox hg)|((with_reducible refine gate_callee (f:=46) rfl ?_);refine goesL_ (some 14) rfl rfl Tryd.func46 (by kernel_rfl) rfl #[.string a0,.string (⟨#[47]⟩ : ByteArray)] rfl (by (try simp only [List.map_toArray,List.map_cons,List.map_nil]);first | done | rfl|(simp only [List.length_drop,List.length_take];rfl)) ?_;(with_reducible refine (strings_Cut.calls a0 (⟨#[47]⟩ : ByteArray) t340 t341 true _ A2.out).mono ?_);rintro e w' ⟨rfl,⟨nd,rfl⟩⟩;refine ⟨_,rfl,?_⟩;(try (rw [drewN_self w20];generalize hq_ : World.drewN w20 _ = w20;have n0_ : Aside0 (w20.heap[gb339]? = some (.cells #[.int .i64 0,.int .i64 0] 30 (0,0))):=⟨by rw [← hq_];exact (by (with_reducible repeat (first|refine bDn ?_ _|refine bDr ?_|refine bAl ?_ _));exact BK339.out)⟩;have n1_ : Aside0 (Below w.heap.size w w20):=⟨by rw [← hq_];exact (by repeat (first|(with_reducible first|exact HB.out|apply bwA|apply bwN|apply bw1|refine below_set ?_ GE339.out)|exact HB.out))⟩;clear BK339 HB hq_;have BK339:=n0_;have HB:=n1_;clear n0_ n1_)))|((with_reducible refine gate_callee (f:=47) rfl ?_);refine goesL_ (some 20) rfl rfl Tryd.func47 (by kernel_rfl) rfl #[.string t340] rfl (by (try simp only [List.map_toArray,List.map_cons,List.map_nil]);first | done | rfl|(simp only [List.length_drop,List.length_take];rfl)) ?_;(with_reducible refine (impl_readAddress.calls k t340 t343 true _ ?sideGe ?sideGp A3.out).mono ?_);(case sideGe => exact GLe_below HGe_.out (by repeat (first|(with_reducible first|exact HB.out|apply bwA|apply bwN|apply bw1|refine below_set ?_ (Aside0.out (by assumption)))|exact HB.out)));(case sideGp => exact GLp_below HGp_.out (by repeat (first|(with_reducible first|exact HB.out|apply bwA|apply bwN|apply bw1|refine below_set ?_ (Aside0.out (by assumption)))|exact HB.out)));rintro e w21 ⟨rfl,hb⟩;refine ⟨_,rfl,?_⟩;have n0_:=aMk (blk_below (g:=gb339) (o:=.cells #[.int .i64 0,.int .i64 0] 30 (0,0)) (by (with_reducible repeat (first|refine bDn ?_ _|refine bDr ?_|refine bAl ?_ _));exact BK339.out) hb);have n1_:=aMk (below_step (by repeat (first|(with_reducible first|exact HB.out|apply bwA|apply bwN|apply bw1|refine below_set ?_ GE339.out)|exact HB.out)) hb);clear BK339;clear HB;have BK339:=n0_;have HB:=n1_;clear n0_ n1_;(try clear hb);(try clear hb2);(try clear hk);(try clear hi))|((with_reducible refine gate_callee (f:=48) rfl ?_);refine goesL_ (some 25) rfl rfl Tryd.func48 (by kernel_rfl) rfl #[.string t341,.int .i64 0,.int .i64 32] rfl (by (try simp only [List.map_toArray,List.map_cons,List.map_nil]);first | done | rfl|(simp only [List.length_drop,List.length_take];rfl)) ?_;(with_reducible refine (impl_numberIn.calls t341 0 32 t345 false _ ?sideGe ?sideGp A4.out).mono ?_);(case sideGe => exact GLe_below HGe_.out (by repeat (first|(with_reducible first|exact HB.out|apply bwA|apply bwN|apply bw1|refine below_set ?_ (Aside0.out (by assumption)))|exact HB.out)));(case sideGp => exact GLp_below HGp_.out (by repeat (first|(with_reducible first|exact HB.out|apply bwA|apply bwN|apply bw1|refine below_set ?_ (Aside0.out (by assumption)))|exact HB.out)));rintro e w22 ⟨rfl,hb⟩;refine ⟨_,rfl,?_⟩;have n0_:=aMk (blk_below (g:=gb339) (o:=.cells #[.int .i64 0,.int .i64 0] 30 (0,0)) (by (with_reducible repeat (first|refine bDn ?_ _|refine bDr ?_|refine bAl ?_ _));exact BK339.out) hb);have n1_:=aMk (below_step (by repeat (first|(with_reducible first|exact HB.out|apply bwA|apply bwN|apply bw1|refine below_set ?_ GE339.out)|exact HB.out)) hb);clear BK339;clear HB;have BK339:=n0_;have HB:=n1_;clear n0_ n1_;(try clear hb);(try clear hb2);(try clear hk);(try clear hi))|((with_reducible refine gate_dst (N:=11) rfl ?_);refine box_event ?hg (N:=11) ?hd (cs:=#[.int .i64 0,.int .i64 0]) (t:=30) ?hr ?_;(case hd => rfl);(case hg => rfl);(case hr => first|(go_simp;done)|(go_simp;rfl));intro gb347 hg w23 hbox hb;have n0_:=aMk (blk_below (g:=gb339) (o:=.cells #[.int .i64 0,.int .i64 0] 30 (0,0)) (by (with_reducible repeat (first|refine bDn ?_ _|refine bDr ?_|refine bAl ?_ _));exact BK339.out) hb);have n1_:=aMk (below_step (by repeat (first|(with_reducible first|exact HB.out|apply bwA|apply bwN|apply bw1|refine below_set ?_ GE339.out)|exact HB.out)) hb);have n2_:=aMk (hbox);have n3_:=aMk ((by rw [hg];exact (below_size (by repeat (first|(with_reducible first|exact HB.out|apply bwA|apply bwN|apply bw1|refine below_set ?_ GE339.out)|exact HB.out))) : w.heap.size ≤ gb347));have n4_:=aMk ((by rw [hg];exact (below_size (by repeat (first|(with_reducible first|exact HB.out|apply bwA|apply bwN|apply bw1|refine below_set ?_ GE339.out)|exact HB.out))) : w.heap.size ≤ gb347));have n5_:=aMk ((by rw [hg];exact Nat.ne_of_lt (blk_lt (g:=gb339) (o:=.cells #[.int .i64 0,.int .i64 0] 30 (0,0)) (by (with_reducible repeat (first|refine bDn ?_ _|refine bDr ?_|refine bAl ?_ _));exact BK339.out)) : gb339 ≠ gb347));have n6_:=aMk ((by rw [hg];exact Nat.ne_of_gt (blk_lt (g:=gb339) (o:=.cells #[.int .i64 0,.int .i64 0] 30 (0,0)) (by (with_reducible repeat (first|refine bDn ?_ _|refine bDr ?_|refine bAl ?_ _));exact BK339.out)) : gb347 ≠ gb339));clear BK339;clear HB;have BK339:=n0_;have HB:=n1_;have BK347:=n2_;have GW347:=n3_;have GE347:=n4_;have NB339_347:=n5_;have NB347_339:=n6_;clear n0_ n1_ n2_ n3_ n4_ n5_ n6_;clear hb hbox hg;have hnb24:=NB347_339.out;have hnc24:=NB339_347.out;have hcz25_0 : w23.cell? ⟨gb347,0,none⟩ = some (.int .i64 0):=(bCe BK347.out 0).trans rfl;have hcz25_1 : w23.cell? ⟨gb347,1,none⟩ = some (.int .i64 0):=(bCe BK347.out 1).trans rfl;have hfz25_0:=bFr BK347.out 0;have hfz25_1:=bFr BK347.out 1))
    (try (repeat rw [show ∀ (w_ : World) (n_ : Nat) (a_ : Addr) (v_ : Value),(w_.drewN n_).setCell a_ v_ = (w_.setCell a_ v_).drewN n_ from fun _ _ _ _ => rfl]));(try (repeat rw [World.drewN_drewN]))
    have n0_ : Aside0 (((w23.setCell ⟨gb347,0,none⟩ (.int .i64 t343)).setCell ⟨gb347,1,none⟩ (.int .i64 t345)).heap[gb339]? = some (.cells #[.int .i64 0,.int .i64 0] 30 (0,0))):=⟨by (with_reducible repeat (first|refine bDn ?_ _|refine bDr ?_|refine bAl ?_ _));refine blk_far ?_ NB339_347.out _;(with_reducible repeat (first|refine bDn ?_ _|refine bDr ?_|refine bAl ?_ _));refine blk_far ?_ NB339_347.out _;(with_reducible repeat (first|refine bDn ?_ _|refine bDr ?_|refine bAl ?_ _));exact BK339.out⟩
    have n1_ : Aside0 (((w23.setCell ⟨gb347,0,none⟩ (.int .i64 t343)).setCell ⟨gb347,1,none⟩ (.int .i64 t345)).heap[gb347]? = some (.cells #[.int .i64 t343,.int .i64 t345] 30 (0,0))):=⟨by (with_reducible repeat (first|refine bDn ?_ _|refine bDr ?_|refine bAl ?_ _));refine blk_put (cs:=#[.int .i64 t343,.int .i64 0]) ?_ 1 _ rfl;(with_reducible repeat (first|refine bDn ?_ _|refine bDr ?_|refine bAl ?_ _));refine blk_put (cs:=#[.int .i64 0,.int .i64 0]) ?_ 0 _ rfl;(with_reducible repeat (first|refine bDn ?_ _|refine bDr ?_|refine bAl ?_ _));exact BK347.out⟩
    have n2_ : Aside0 (Below w.heap.size w ((w23.setCell ⟨gb347,0,none⟩ (.int .i64 t343)).setCell ⟨gb347,1,none⟩ (.int .i64 t345))):=⟨by repeat (first|(with_reducible first|exact HB.out|apply bwA|apply bwN|apply bw1|refine below_set ?_ GE339.out|refine below_set ?_ GE347.out)|exact HB.out)⟩
    (try clear BK339)
    (try clear BK347)
    (try clear HB)
    generalize ((w23.setCell ⟨gb347,0,none⟩ (.int .i64 t343)).setCell ⟨gb347,1,none⟩ (.int .i64 t345)) = w26 at n0_ n1_ n2_ ⊢
    have BK339:=n0_
    have BK347:=n1_
    have HB:=n2_
    clear n0_ n1_ n2_
    have n0_:=aMk (bDr BK339.out)
    have n1_:=aMk (bDr BK347.out)
    have n2_:=aMk (bw1 HB.out)
    clear BK339
    clear BK347
    clear HB
    have BK339:=n0_
    have BK347:=n1_
    have HB:=n2_
    clear n0_ n1_ n2_
    refine start_ (n:=14) (S:=fun w' => w'.cell? ⟨gb347,0,none⟩ = some (.int .i64 t343) ∧ w'.cell? ⟨gb347,1,none⟩ = some (.int .i64 t345)) (ds:=[]) #[false,false,false,false,false,false,false,false,false,false,false,false,false,false] (by kernel_rfl) rfl rfl ⟨(bCe BK347.out 0).trans rfl,(bCe BK347.out 1).trans rfl⟩ (fun hHeld => ?_);refine with_tabW impl_readNet.tab5 impl_readNet.bits5 (fun HT_ HW_ => ?_)
    generalize w26.drew = w27 at BK339 BK347 HB hHeld ⊢
    refine pure_ (i:=1) (N:=some 32) (v:=?_) (a':=?_) #[false,true,false,false,false,false,false,false,false,false,false,false,false,false] rfl rfl (any_of HT_.out (by kernel_rfl)) (fun _ _ _ h => h) (Or.inl ⟨by rfl,?_⟩) ?_ ?_
    rotate_left
    ·intro w'
     go_simp
     with_reducible rfl
    rotate_left
    ·simp only [Act.put,List.setIfInBounds_toArray,List.set_cons_zero,List.set_cons_succ,i64_w,i32_w]
     rfl
    refine pure_ (i:=2) (N:=some 33) (v:=?_) (a':=?_) #[false,true,true,false,false,false,false,false,false,false,false,false,false,false] rfl rfl (any_of HT_.out (by kernel_rfl)) (fun _ _ _ h => h) (Or.inl ⟨by rfl,?_⟩) ?_ ?_
    rotate_left
    ·intro w'
     go_simp
     with_reducible rfl
    rotate_left
    ·simp only [Act.put,List.setIfInBounds_toArray,List.set_cons_zero,List.set_cons_succ,i64_w,i32_w]
     rfl
    refine pure_ (i:=3) (N:=some 34) (v:=?_) (a':=?_) #[false,true,true,true,false,false,false,false,false,false,false,false,false,false] rfl rfl (any_of HT_.out (by kernel_rfl)) (fun _ _ _ h => h) (Or.inl ⟨by rfl,?_⟩) ?_ ?_
    rotate_left
    ·intro w'
     go_simp
     with_reducible rfl
    rotate_left
    ·simp only [Act.put,List.setIfInBounds_toArray,List.set_cons_zero,List.set_cons_succ,i64_w,i32_w]
     rfl
    refine pure_ (i:=4) (N:=some 35) (v:=?_) (a':=?_) #[false,true,true,true,true,false,false,false,false,false,false,false,false,false] rfl rfl (any_of HT_.out (by kernel_rfl)) (fun _ _ _ h => h) (Or.inl ⟨by rfl,?_⟩) ?_ ?_
    rotate_left
    ·intro w'
     go_simp
     with_reducible rfl
    rotate_left
    ·simp only [Act.put,List.setIfInBounds_toArray,List.set_cons_zero,List.set_cons_succ,i64_w,i32_w]
     rfl
    refine pure_ (i:=5) (N:=some 36) (v:=?_) (a':=?_) #[false,true,true,true,true,true,false,false,false,false,false,false,false,false] rfl rfl (any_of HT_.out (by kernel_rfl)) (fun _ _ _ h => h) (Or.inl ⟨by rfl,?_⟩) ?_ ?_
    rotate_left
    ·intro w'
     go_simp
     with_reducible rfl
    rotate_left
    ·simp only [Act.put,List.setIfInBounds_toArray,List.set_cons_zero,List.set_cons_succ,i64_w,i32_w]
     rfl
    refine pure_ (i:=6) (N:=some 37) (v:=?_) (a':=?_) #[false,true,true,true,true,true,true,false,false,false,false,false,false,false] rfl rfl (any_of HT_.out (by kernel_rfl)) (fun _ _ _ h => h) (Or.inl ⟨by rfl,?_⟩) ?_ ?_
    rotate_left
    ·intro w'
     go_simp
     with_reducible rfl
    rotate_left
    ·simp only [Act.put,List.setIfInBounds_toArray,List.set_cons_zero,List.set_cons_succ,i64_w,i32_w]
     rfl
    refine pure_ (i:=7) (N:=some 38) (v:=?_) (a':=?_) #[false,true,true,true,true,true,true,true,false,false,false,false,false,false] rfl rfl (any_of HT_.out (by kernel_rfl)) (fun _ _ _ h => h) (Or.inl ⟨by rfl,?_⟩) ?_ ?_
    rotate_left
    ·intro w'
     go_simp
     with_reducible rfl
    rotate_left
    ·simp only [Act.put,List.setIfInBounds_toArray,List.set_cons_zero,List.set_cons_succ,i64_w,i32_w]
     rfl
    refine pure_ (i:=8) (N:=some 39) (v:=?_) (a':=?_) #[false,true,true,true,true,true,true,true,true,false,false,false,false,false] rfl rfl (any_of HT_.out (by kernel_rfl)) (fun _ _ _ h => h) (Or.inl ⟨by rfl,?_⟩) ?_ ?_
    rotate_left
    ·intro w'
     go_simp
     with_reducible rfl
    rotate_left
    ·simp only [Act.put,List.setIfInBounds_toArray,List.set_cons_zero,List.set_cons_succ,i64_w,i32_w]
     rfl
    refine pure_ (i:=9) (N:=some 40) (v:=undef) (a':=?_) #[false,true,true,true,true,true,true,true,true,true,false,false,false,false] rfl rfl (any_of HT_.out (by kernel_rfl)) (fun _ _ _ h => h) (Or.inr ⟨by rfl,rfl⟩) ?_ ?_
    rotate_left
    ·simp only [Act.put,List.setIfInBounds_toArray,List.set_cons_zero,List.set_cons_succ,i64_w,i32_w]
     rfl
    refine pure_ (i:=10) (N:=some 41) (v:=undef) (a':=?_) #[false,true,true,true,true,true,true,true,true,true,true,false,false,false] rfl rfl (any_of HT_.out (by kernel_rfl)) (fun _ _ _ h => h) (Or.inr ⟨by rfl,rfl⟩) ?_ ?_
    rotate_left
    ·simp only [Act.put,List.setIfInBounds_toArray,List.set_cons_zero,List.set_cons_succ,i64_w,i32_w]
     rfl
    refine pure_ (i:=11) (N:=some 42) (v:=?_) (a':=?_) #[false,true,true,true,true,true,true,true,true,true,true,true,false,false] rfl rfl (any_of HT_.out (by kernel_rfl)) (fun _ _ _ h => h) (Or.inl ⟨by rfl,?_⟩) ?_ ?_
    rotate_left
    ·intro w'
     go_simp
     with_reducible rfl
    rotate_left
    ·simp only [Act.put,List.setIfInBounds_toArray,List.set_cons_zero,List.set_cons_succ,i64_w,i32_w]
     rfl
    refine take_ (i:=0) (N:=some 31) (v:=?_) (a':=?_) #[true,true,true,true,true,true,true,true,true,true,true,true,false,false] rfl rfl (take_ofW HT_.out HW_.out (by kernel_rfl)) (fun _ _ _ h => h) (Or.inl ⟨by rfl,?_⟩) hHeld ?_ ?_
    rotate_left
    ·rintro w' ⟨s0,s1⟩
     go_simp
     with_reducible rfl
    rotate_left
    ·simp only [Act.put,List.setIfInBounds_toArray,List.set_cons_zero,List.set_cons_succ,i64_w,i32_w]
     rfl
    refine one_ (i:=12) (N:=none) #[true,true,true,true,true,true,true,true,true,true,true,true,true,false] rfl rfl (one_of HT_.out (by kernel_rfl)) (by decide) (fun K hK => ?_)
    have hs28 : w27.cell? ⟨gb339,0,none⟩ = some (.int .i64 0):=(bCe BK339.out 0).trans rfl
    have hfs28:=bFr BK339.out 0
    have hns28_1:=NB347_339.out
    have hms28_1:=NB339_347.out
    have hs29 : w27.cell? ⟨gb339,1,none⟩ = some (.int .i64 0):=(bCe BK339.out 1).trans rfl
    have hfs29:=bFr BK339.out 1
    have hns29_1:=NB347_339.out
    have hms29_1:=NB339_347.out
    refine skip_ (w1:=?_) (by rfl) rfl ?_ ?_
    rotate_left
    ·go_simp
     rfl
    refine hK.out _ _ ⟨((cell_far (p:=⟨gb339,_,none⟩) NB347_339.out _).trans (((cell_far (p:=⟨gb339,_,none⟩) NB347_339.out _).trans (hHeld.1)))),((cell_far (p:=⟨gb339,_,none⟩) NB347_339.out _).trans (((cell_far (p:=⟨gb339,_,none⟩) NB347_339.out _).trans (hHeld.2))))⟩ (fun hHeld => ?_)
    clear hK K
    refine pure_ (i:=13) (N:=some 3) (v:=?_) (a':=?_) #[true,true,true,true,true,true,true,true,true,true,true,true,true,true] rfl rfl (any_of HT_.out (by kernel_rfl)) (fun _ _ _ h => h) (Or.inl ⟨by rfl,?_⟩) ?_ ?_
    rotate_left
    ·intro w'
     go_simp
     with_reducible rfl
    rotate_left
    ·simp only [Act.put,List.setIfInBounds_toArray,List.set_cons_zero,List.set_cons_succ,i64_w,i32_w]
     rfl
    refine done_ (done_of HT_.out (by kernel_rfl)) ?_
    try go_wp2
    refine bodyPost_ret (results_ct rfl _ _ gb339 30 #[.int .i64 t343,.int .i64 t345] (0,0) _ rfl (by (with_reducible repeat (first|refine bDn ?_ _|refine bDr ?_|refine bAl ?_ _));refine blk_put (cs:=#[.int .i64 t343,.int .i64 0]) ?_ 1 _ rfl;(with_reducible repeat (first|refine bDn ?_ _|refine bDr ?_|refine bAl ?_ _));refine blk_put (cs:=#[.int .i64 0,.int .i64 0]) ?_ 0 _ rfl;(with_reducible repeat (first|refine bDn ?_ _|refine bDr ?_|refine bAl ?_ _));exact BK339.out) Tryd.underlying30 rfl (by kernel_rfl)) rfl ?_
    exact ⟨by first | rfl|(simp [errW_none,errW_some] <;> rfl)|(simp [*,errW_none,errW_some] <;> rfl),by repeat (first|(with_reducible first|exact HB.out|apply bwA|apply bwN|apply bw1|refine below_set ?_ GE339.out|refine below_set ?_ GE347.out)|exact HB.out)⟩
  ·replace c6:=Bool.eq_false_iff.mpr c6
   subst c6
   have H1 : (some (t343,t345,false)) = some (r1,r2,r3):=by rw [if_neg (show ¬ (false = true) by decide)] at H;exact H
   clear H
   have H:=H1
   clear H1
   simp only [Option.some.injEq,Prod.mk.injEq] at H
   obtain ⟨rfl,rfl,rfl⟩:=H
   go_enter Tryd.func26,Tryd.ntmps26
   try go_wp2_with (first|((with_reducible refine gate_dst (N:=2) rfl ?_);refine box_event ?hg (N:=2) ?hd (cs:=#[.int .i64 0,.int .i64 0]) (t:=30) ?hr ?_;(case hd => rfl);(case hg => rfl);(case hr => first|(go_simp;done)|(go_simp;rfl));intro gb339 hg w30 hbox hb;have n0_:=aMk (below_step (by repeat first|exact HB.out|apply bwA|apply bwN|apply bw1) hb);have n1_:=aMk (hbox);have n2_:=aMk ((by rw [hg];exact (below_size (by repeat first|exact HB.out|apply bwA|apply bwN|apply bw1)) : w.heap.size ≤ gb339));have n3_:=aMk ((by rw [hg];exact (below_size (by repeat first|exact HB.out|apply bwA|apply bwN|apply bw1)) : w.heap.size ≤ gb339));clear HB;have HB:=n0_;have BK339:=n1_;have GW339:=n2_;have GE339:=n3_;clear n0_ n1_ n2_ n3_;clear hb hbox hg)|((with_reducible refine gate_callee (f:=46) rfl ?_);refine goesL_ (some 14) rfl rfl Tryd.func46 (by kernel_rfl) rfl #[.string a0,.string (⟨#[47]⟩ : ByteArray)] rfl (by (try simp only [List.map_toArray,List.map_cons,List.map_nil]);first | done | rfl|(simp only [List.length_drop,List.length_take];rfl)) ?_;(with_reducible refine (strings_Cut.calls a0 (⟨#[47]⟩ : ByteArray) t340 t341 true _ A2.out).mono ?_);rintro e w' ⟨rfl,⟨nd,rfl⟩⟩;refine ⟨_,rfl,?_⟩;(try (rw [drewN_self w30];generalize hq_ : World.drewN w30 _ = w30;have n0_ : Aside0 (w30.heap[gb339]? = some (.cells #[.int .i64 0,.int .i64 0] 30 (0,0))):=⟨by rw [← hq_];exact (by (with_reducible repeat (first|refine bDn ?_ _|refine bDr ?_|refine bAl ?_ _));exact BK339.out)⟩;have n1_ : Aside0 (Below w.heap.size w w30):=⟨by rw [← hq_];exact (by repeat (first|(with_reducible first|exact HB.out|apply bwA|apply bwN|apply bw1|refine below_set ?_ GE339.out)|exact HB.out))⟩;clear BK339 HB hq_;have BK339:=n0_;have HB:=n1_;clear n0_ n1_)))|((with_reducible refine gate_callee (f:=47) rfl ?_);refine goesL_ (some 20) rfl rfl Tryd.func47 (by kernel_rfl) rfl #[.string t340] rfl (by (try simp only [List.map_toArray,List.map_cons,List.map_nil]);first | done | rfl|(simp only [List.length_drop,List.length_take];rfl)) ?_;(with_reducible refine (impl_readAddress.calls k t340 t343 false _ ?sideGe ?sideGp A3.out).mono ?_);(case sideGe => exact GLe_below HGe_.out (by repeat (first|(with_reducible first|exact HB.out|apply bwA|apply bwN|apply bw1|refine below_set ?_ (Aside0.out (by assumption)))|exact HB.out)));(case sideGp => exact GLp_below HGp_.out (by repeat (first|(with_reducible first|exact HB.out|apply bwA|apply bwN|apply bw1|refine below_set ?_ (Aside0.out (by assumption)))|exact HB.out)));rintro e w31 ⟨rfl,hb⟩;refine ⟨_,rfl,?_⟩;have n0_:=aMk (blk_below (g:=gb339) (o:=.cells #[.int .i64 0,.int .i64 0] 30 (0,0)) (by (with_reducible repeat (first|refine bDn ?_ _|refine bDr ?_|refine bAl ?_ _));exact BK339.out) hb);have n1_:=aMk (below_step (by repeat (first|(with_reducible first|exact HB.out|apply bwA|apply bwN|apply bw1|refine below_set ?_ GE339.out)|exact HB.out)) hb);clear BK339;clear HB;have BK339:=n0_;have HB:=n1_;clear n0_ n1_;(try clear hb);(try clear hb2);(try clear hk);(try clear hi))|((with_reducible refine gate_callee (f:=48) rfl ?_);refine goesL_ (some 25) rfl rfl Tryd.func48 (by kernel_rfl) rfl #[.string t341,.int .i64 0,.int .i64 32] rfl (by (try simp only [List.map_toArray,List.map_cons,List.map_nil]);first | done | rfl|(simp only [List.length_drop,List.length_take];rfl)) ?_;(with_reducible refine (impl_numberIn.calls t341 0 32 t345 t346 _ ?sideGe ?sideGp A4.out).mono ?_);(case sideGe => exact GLe_below HGe_.out (by repeat (first|(with_reducible first|exact HB.out|apply bwA|apply bwN|apply bw1|refine below_set ?_ (Aside0.out (by assumption)))|exact HB.out)));(case sideGp => exact GLp_below HGp_.out (by repeat (first|(with_reducible first|exact HB.out|apply bwA|apply bwN|apply bw1|refine below_set ?_ (Aside0.out (by assumption)))|exact HB.out)));rintro e w32 ⟨rfl,hb⟩;refine ⟨_,rfl,?_⟩;have n0_:=aMk (blk_below (g:=gb339) (o:=.cells #[.int .i64 0,.int .i64 0] 30 (0,0)) (by (with_reducible repeat (first|refine bDn ?_ _|refine bDr ?_|refine bAl ?_ _));exact BK339.out) hb);have n1_:=aMk (below_step (by repeat (first|(with_reducible first|exact HB.out|apply bwA|apply bwN|apply bw1|refine below_set ?_ GE339.out)|exact HB.out)) hb);clear BK339;clear HB;have BK339:=n0_;have HB:=n1_;clear n0_ n1_;(try clear hb);(try clear hb2);(try clear hk);(try clear hi))|((with_reducible refine gate_dst (N:=11) rfl ?_);refine box_event ?hg (N:=11) ?hd (cs:=#[.int .i64 0,.int .i64 0]) (t:=30) ?hr ?_;(case hd => rfl);(case hg => rfl);(case hr => first|(go_simp;done)|(go_simp;rfl));intro gb347 hg w33 hbox hb;have n0_:=aMk (blk_below (g:=gb339) (o:=.cells #[.int .i64 0,.int .i64 0] 30 (0,0)) (by (with_reducible repeat (first|refine bDn ?_ _|refine bDr ?_|refine bAl ?_ _));exact BK339.out) hb);have n1_:=aMk (below_step (by repeat (first|(with_reducible first|exact HB.out|apply bwA|apply bwN|apply bw1|refine below_set ?_ GE339.out)|exact HB.out)) hb);have n2_:=aMk (hbox);have n3_:=aMk ((by rw [hg];exact (below_size (by repeat (first|(with_reducible first|exact HB.out|apply bwA|apply bwN|apply bw1|refine below_set ?_ GE339.out)|exact HB.out))) : w.heap.size ≤ gb347));have n4_:=aMk ((by rw [hg];exact (below_size (by repeat (first|(with_reducible first|exact HB.out|apply bwA|apply bwN|apply bw1|refine below_set ?_ GE339.out)|exact HB.out))) : w.heap.size ≤ gb347));have n5_:=aMk ((by rw [hg];exact Nat.ne_of_lt (blk_lt (g:=gb339) (o:=.cells #[.int .i64 0,.int .i64 0] 30 (0,0)) (by (with_reducible repeat (first|refine bDn ?_ _|refine bDr ?_|refine bAl ?_ _));exact BK339.out)) : gb339 ≠ gb347));have n6_:=aMk ((by rw [hg];exact Nat.ne_of_gt (blk_lt (g:=gb339) (o:=.cells #[.int .i64 0,.int .i64 0] 30 (0,0)) (by (with_reducible repeat (first|refine bDn ?_ _|refine bDr ?_|refine bAl ?_ _));exact BK339.out)) : gb347 ≠ gb339));clear BK339;clear HB;have BK339:=n0_;have HB:=n1_;have BK347:=n2_;have GW347:=n3_;have GE347:=n4_;have NB339_347:=n5_;have NB347_339:=n6_;clear n0_ n1_ n2_ n3_ n4_ n5_ n6_;clear hb hbox hg;have hnb34:=NB347_339.out;have hnc34:=NB339_347.out;have hcz35_0 : w33.cell? ⟨gb347,0,none⟩ = some (.int .i64 0):=(bCe BK347.out 0).trans rfl;have hcz35_1 : w33.cell? ⟨gb347,1,none⟩ = some (.int .i64 0):=(bCe BK347.out 1).trans rfl;have hfz35_0:=bFr BK347.out 0;have hfz35_1:=bFr BK347.out 1))
   (try (repeat rw [show ∀ (w_ : World) (n_ : Nat) (a_ : Addr) (v_ : Value),(w_.drewN n_).setCell a_ v_ = (w_.setCell a_ v_).drewN n_ from fun _ _ _ _ => rfl]));(try (repeat rw [World.drewN_drewN]))
   have n0_ : Aside0 (((w33.setCell ⟨gb347,0,none⟩ (.int .i64 t343)).setCell ⟨gb347,1,none⟩ (.int .i64 t345)).heap[gb339]? = some (.cells #[.int .i64 0,.int .i64 0] 30 (0,0))):=⟨by (with_reducible repeat (first|refine bDn ?_ _|refine bDr ?_|refine bAl ?_ _));refine blk_far ?_ NB339_347.out _;(with_reducible repeat (first|refine bDn ?_ _|refine bDr ?_|refine bAl ?_ _));refine blk_far ?_ NB339_347.out _;(with_reducible repeat (first|refine bDn ?_ _|refine bDr ?_|refine bAl ?_ _));exact BK339.out⟩
   have n1_ : Aside0 (((w33.setCell ⟨gb347,0,none⟩ (.int .i64 t343)).setCell ⟨gb347,1,none⟩ (.int .i64 t345)).heap[gb347]? = some (.cells #[.int .i64 t343,.int .i64 t345] 30 (0,0))):=⟨by (with_reducible repeat (first|refine bDn ?_ _|refine bDr ?_|refine bAl ?_ _));refine blk_put (cs:=#[.int .i64 t343,.int .i64 0]) ?_ 1 _ rfl;(with_reducible repeat (first|refine bDn ?_ _|refine bDr ?_|refine bAl ?_ _));refine blk_put (cs:=#[.int .i64 0,.int .i64 0]) ?_ 0 _ rfl;(with_reducible repeat (first|refine bDn ?_ _|refine bDr ?_|refine bAl ?_ _));exact BK347.out⟩
   have n2_ : Aside0 (Below w.heap.size w ((w33.setCell ⟨gb347,0,none⟩ (.int .i64 t343)).setCell ⟨gb347,1,none⟩ (.int .i64 t345))):=⟨by repeat (first|(with_reducible first|exact HB.out|apply bwA|apply bwN|apply bw1|refine below_set ?_ GE339.out|refine below_set ?_ GE347.out)|exact HB.out)⟩
   (try clear BK339)
   (try clear BK347)
   (try clear HB)
   generalize ((w33.setCell ⟨gb347,0,none⟩ (.int .i64 t343)).setCell ⟨gb347,1,none⟩ (.int .i64 t345)) = w36 at n0_ n1_ n2_ ⊢
   have BK339:=n0_
   have BK347:=n1_
   have HB:=n2_
   clear n0_ n1_ n2_
   have n0_:=aMk (bDr BK339.out)
   have n1_:=aMk (bDr BK347.out)
   have n2_:=aMk (bw1 HB.out)
   clear BK339
   clear BK347
   clear HB
   have BK339:=n0_
   have BK347:=n1_
   have HB:=n2_
   clear n0_ n1_ n2_
   refine start_ (n:=14) (S:=fun w' => w'.cell? ⟨gb347,0,none⟩ = some (.int .i64 t343) ∧ w'.cell? ⟨gb347,1,none⟩ = some (.int .i64 t345)) (ds:=[]) #[false,false,false,false,false,false,false,false,false,false,false,false,false,false] (by kernel_rfl) rfl rfl ⟨(bCe BK347.out 0).trans rfl,(bCe BK347.out 1).trans rfl⟩ (fun hHeld => ?_);refine with_tabW impl_readNet.tab5 impl_readNet.bits5 (fun HT_ HW_ => ?_)
   generalize w36.drew = w37 at BK339 BK347 HB hHeld ⊢
   refine pure_ (i:=1) (N:=some 32) (v:=?_) (a':=?_) #[false,true,false,false,false,false,false,false,false,false,false,false,false,false] rfl rfl (any_of HT_.out (by kernel_rfl)) (fun _ _ _ h => h) (Or.inl ⟨by rfl,?_⟩) ?_ ?_
   rotate_left
   ·intro w'
    go_simp
    with_reducible rfl
   rotate_left
   ·simp only [Act.put,List.setIfInBounds_toArray,List.set_cons_zero,List.set_cons_succ,i64_w,i32_w]
    rfl
   refine pure_ (i:=2) (N:=some 33) (v:=?_) (a':=?_) #[false,true,true,false,false,false,false,false,false,false,false,false,false,false] rfl rfl (any_of HT_.out (by kernel_rfl)) (fun _ _ _ h => h) (Or.inl ⟨by rfl,?_⟩) ?_ ?_
   rotate_left
   ·intro w'
    go_simp
    with_reducible rfl
   rotate_left
   ·simp only [Act.put,List.setIfInBounds_toArray,List.set_cons_zero,List.set_cons_succ,i64_w,i32_w]
    rfl
   refine pure_ (i:=3) (N:=some 34) (v:=?_) (a':=?_) #[false,true,true,true,false,false,false,false,false,false,false,false,false,false] rfl rfl (any_of HT_.out (by kernel_rfl)) (fun _ _ _ h => h) (Or.inl ⟨by rfl,?_⟩) ?_ ?_
   rotate_left
   ·intro w'
    go_simp
    with_reducible rfl
   rotate_left
   ·simp only [Act.put,List.setIfInBounds_toArray,List.set_cons_zero,List.set_cons_succ,i64_w,i32_w]
    rfl
   refine pure_ (i:=4) (N:=some 35) (v:=?_) (a':=?_) #[false,true,true,true,true,false,false,false,false,false,false,false,false,false] rfl rfl (any_of HT_.out (by kernel_rfl)) (fun _ _ _ h => h) (Or.inl ⟨by rfl,?_⟩) ?_ ?_
   rotate_left
   ·intro w'
    go_simp
    with_reducible rfl
   rotate_left
   ·simp only [Act.put,List.setIfInBounds_toArray,List.set_cons_zero,List.set_cons_succ,i64_w,i32_w]
    rfl
   refine pure_ (i:=5) (N:=some 36) (v:=?_) (a':=?_) #[false,true,true,true,true,true,false,false,false,false,false,false,false,false] rfl rfl (any_of HT_.out (by kernel_rfl)) (fun _ _ _ h => h) (Or.inl ⟨by rfl,?_⟩) ?_ ?_
   rotate_left
   ·intro w'
    go_simp
    with_reducible rfl
   rotate_left
   ·simp only [Act.put,List.setIfInBounds_toArray,List.set_cons_zero,List.set_cons_succ,i64_w,i32_w]
    rfl
   refine pure_ (i:=6) (N:=some 37) (v:=undef) (a':=?_) #[false,true,true,true,true,true,true,false,false,false,false,false,false,false] rfl rfl (any_of HT_.out (by kernel_rfl)) (fun _ _ _ h => h) (Or.inr ⟨by rfl,rfl⟩) ?_ ?_
   rotate_left
   ·simp only [Act.put,List.setIfInBounds_toArray,List.set_cons_zero,List.set_cons_succ,i64_w,i32_w]
    rfl
   refine pure_ (i:=7) (N:=some 38) (v:=?_) (a':=?_) #[false,true,true,true,true,true,true,true,false,false,false,false,false,false] rfl rfl (any_of HT_.out (by kernel_rfl)) (fun _ _ _ h => h) (Or.inl ⟨by rfl,?_⟩) ?_ ?_
   rotate_left
   ·intro w'
    go_simp
    with_reducible rfl
   rotate_left
   ·simp only [Act.put,List.setIfInBounds_toArray,List.set_cons_zero,List.set_cons_succ,i64_w,i32_w]
    rfl
   refine pure_ (i:=8) (N:=some 39) (v:=?_) (a':=?_) #[false,true,true,true,true,true,true,true,true,false,false,false,false,false] rfl rfl (any_of HT_.out (by kernel_rfl)) (fun _ _ _ h => h) (Or.inl ⟨by rfl,?_⟩) ?_ ?_
   rotate_left
   ·intro w'
    go_simp
    with_reducible rfl
   rotate_left
   ·simp only [Act.put,List.setIfInBounds_toArray,List.set_cons_zero,List.set_cons_succ,i64_w,i32_w]
    rfl
   refine pure_ (i:=9) (N:=some 40) (v:=undef) (a':=?_) #[false,true,true,true,true,true,true,true,true,true,false,false,false,false] rfl rfl (any_of HT_.out (by kernel_rfl)) (fun _ _ _ h => h) (Or.inr ⟨by rfl,rfl⟩) ?_ ?_
   rotate_left
   ·simp only [Act.put,List.setIfInBounds_toArray,List.set_cons_zero,List.set_cons_succ,i64_w,i32_w]
    rfl
   refine pure_ (i:=10) (N:=some 41) (v:=undef) (a':=?_) #[false,true,true,true,true,true,true,true,true,true,true,false,false,false] rfl rfl (any_of HT_.out (by kernel_rfl)) (fun _ _ _ h => h) (Or.inr ⟨by rfl,rfl⟩) ?_ ?_
   rotate_left
   ·simp only [Act.put,List.setIfInBounds_toArray,List.set_cons_zero,List.set_cons_succ,i64_w,i32_w]
    rfl
   refine pure_ (i:=11) (N:=some 42) (v:=?_) (a':=?_) #[false,true,true,true,true,true,true,true,true,true,true,true,false,false] rfl rfl (any_of HT_.out (by kernel_rfl)) (fun _ _ _ h => h) (Or.inl ⟨by rfl,?_⟩) ?_ ?_
   rotate_left
   ·intro w'
    go_simp
    with_reducible rfl
   rotate_left
   ·simp only [Act.put,List.setIfInBounds_toArray,List.set_cons_zero,List.set_cons_succ,i64_w,i32_w]
    rfl
   refine take_ (i:=0) (N:=some 31) (v:=?_) (a':=?_) #[true,true,true,true,true,true,true,true,true,true,true,true,false,false] rfl rfl (take_ofW HT_.out HW_.out (by kernel_rfl)) (fun _ _ _ h => h) (Or.inl ⟨by rfl,?_⟩) hHeld ?_ ?_
   rotate_left
   ·rintro w' ⟨s0,s1⟩
    go_simp
    with_reducible rfl
   rotate_left
   ·simp only [Act.put,List.setIfInBounds_toArray,List.set_cons_zero,List.set_cons_succ,i64_w,i32_w]
    rfl
   refine one_ (i:=12) (N:=none) #[true,true,true,true,true,true,true,true,true,true,true,true,true,false] rfl rfl (one_of HT_.out (by kernel_rfl)) (by decide) (fun K hK => ?_)
   have hs38 : w37.cell? ⟨gb339,0,none⟩ = some (.int .i64 0):=(bCe BK339.out 0).trans rfl
   have hfs38:=bFr BK339.out 0
   have hns38_1:=NB347_339.out
   have hms38_1:=NB339_347.out
   have hs39 : w37.cell? ⟨gb339,1,none⟩ = some (.int .i64 0):=(bCe BK339.out 1).trans rfl
   have hfs39:=bFr BK339.out 1
   have hns39_1:=NB347_339.out
   have hms39_1:=NB339_347.out
   refine skip_ (w1:=?_) (by rfl) rfl ?_ ?_
   rotate_left
   ·go_simp
    rfl
   refine hK.out _ _ ⟨((cell_far (p:=⟨gb339,_,none⟩) NB347_339.out _).trans (((cell_far (p:=⟨gb339,_,none⟩) NB347_339.out _).trans (hHeld.1)))),((cell_far (p:=⟨gb339,_,none⟩) NB347_339.out _).trans (((cell_far (p:=⟨gb339,_,none⟩) NB347_339.out _).trans (hHeld.2))))⟩ (fun hHeld => ?_)
   clear hK K
   refine pure_ (i:=13) (N:=some 3) (v:=?_) (a':=?_) #[true,true,true,true,true,true,true,true,true,true,true,true,true,true] rfl rfl (any_of HT_.out (by kernel_rfl)) (fun _ _ _ h => h) (Or.inl ⟨by rfl,?_⟩) ?_ ?_
   rotate_left
   ·intro w'
    go_simp
    with_reducible rfl
   rotate_left
   ·simp only [Act.put,List.setIfInBounds_toArray,List.set_cons_zero,List.set_cons_succ,i64_w,i32_w]
    rfl
   refine done_ (done_of HT_.out (by kernel_rfl)) ?_
   try go_wp2
   refine bodyPost_ret (results_ct rfl _ _ gb339 30 #[.int .i64 t343,.int .i64 t345] (0,0) _ rfl (by (with_reducible repeat (first|refine bDn ?_ _|refine bDr ?_|refine bAl ?_ _));refine blk_put (cs:=#[.int .i64 t343,.int .i64 0]) ?_ 1 _ rfl;(with_reducible repeat (first|refine bDn ?_ _|refine bDr ?_|refine bAl ?_ _));refine blk_put (cs:=#[.int .i64 0,.int .i64 0]) ?_ 0 _ rfl;(with_reducible repeat (first|refine bDn ?_ _|refine bDr ?_|refine bAl ?_ _));exact BK339.out) Tryd.underlying30 rfl (by kernel_rfl)) rfl ?_
   exact ⟨by first | rfl|(simp [errW_none,errW_some] <;> rfl)|(simp [*,errW_none,errW_some] <;> rfl),by repeat (first|(with_reducible first|exact HB.out|apply bwA|apply bwN|apply bw1|refine below_set ?_ GE339.out|refine below_set ?_ GE347.out)|exact HB.out)⟩
 ·replace c5:=Bool.eq_false_iff.mpr c5
  subst c5
  have H1 : (some (t343,t345,false)) = some (r1,r2,r3):=by rw [if_neg (show ¬ (false = true) by decide)] at H;exact H
  clear H
  have H:=H1
  clear H1
  simp only [Option.some.injEq,Prod.mk.injEq] at H
  obtain ⟨rfl,rfl,rfl⟩:=H
  go_enter Tryd.func26,Tryd.ntmps26
  try go_wp2_with (first|((with_reducible refine gate_dst (N:=2) rfl ?_);refine box_event ?hg (N:=2) ?hd (cs:=#[.int .i64 0,.int .i64 0]) (t:=30) ?hr ?_;(case hd => rfl);(case hg => rfl);(case hr => first|(go_simp;done)|(go_simp;rfl));intro gb339 hg w40 hbox hb;have n0_:=aMk (below_step (by repeat first|exact HB.out|apply bwA|apply bwN|apply bw1) hb);have n1_:=aMk (hbox);have n2_:=aMk ((by rw [hg];exact (below_size (by repeat first|exact HB.out|apply bwA|apply bwN|apply bw1)) : w.heap.size ≤ gb339));have n3_:=aMk ((by rw [hg];exact (below_size (by repeat first|exact HB.out|apply bwA|apply bwN|apply bw1)) : w.heap.size ≤ gb339));clear HB;have HB:=n0_;have BK339:=n1_;have GW339:=n2_;have GE339:=n3_;clear n0_ n1_ n2_ n3_;clear hb hbox hg)|((with_reducible refine gate_callee (f:=46) rfl ?_);refine goesL_ (some 14) rfl rfl Tryd.func46 (by kernel_rfl) rfl #[.string a0,.string (⟨#[47]⟩ : ByteArray)] rfl (by (try simp only [List.map_toArray,List.map_cons,List.map_nil]);first | done | rfl|(simp only [List.length_drop,List.length_take];rfl)) ?_;(with_reducible refine (strings_Cut.calls a0 (⟨#[47]⟩ : ByteArray) t340 t341 false _ A2.out).mono ?_);rintro e w' ⟨rfl,⟨nd,rfl⟩⟩;refine ⟨_,rfl,?_⟩;(try (rw [drewN_self w40];generalize hq_ : World.drewN w40 _ = w40;have n0_ : Aside0 (w40.heap[gb339]? = some (.cells #[.int .i64 0,.int .i64 0] 30 (0,0))):=⟨by rw [← hq_];exact (by (with_reducible repeat (first|refine bDn ?_ _|refine bDr ?_|refine bAl ?_ _));exact BK339.out)⟩;have n1_ : Aside0 (Below w.heap.size w w40):=⟨by rw [← hq_];exact (by repeat (first|(with_reducible first|exact HB.out|apply bwA|apply bwN|apply bw1|refine below_set ?_ GE339.out)|exact HB.out))⟩;clear BK339 HB hq_;have BK339:=n0_;have HB:=n1_;clear n0_ n1_)))|((with_reducible refine gate_callee (f:=47) rfl ?_);refine goesL_ (some 20) rfl rfl Tryd.func47 (by kernel_rfl) rfl #[.string t340] rfl (by (try simp only [List.map_toArray,List.map_cons,List.map_nil]);first | done | rfl|(simp only [List.length_drop,List.length_take];rfl)) ?_;(with_reducible refine (impl_readAddress.calls k t340 t343 t344 _ ?sideGe ?sideGp A3.out).mono ?_);(case sideGe => exact GLe_below HGe_.out (by repeat (first|(with_reducible first|exact HB.out|apply bwA|apply bwN|apply bw1|refine below_set ?_ (Aside0.out (by assumption)))|exact HB.out)));(case sideGp => exact GLp_below HGp_.out (by repeat (first|(with_reducible first|exact HB.out|apply bwA|apply bwN|apply bw1|refine below_set ?_ (Aside0.out (by assumption)))|exact HB.out)));rintro e w41 ⟨rfl,hb⟩;refine ⟨_,rfl,?_⟩;have n0_:=aMk (blk_below (g:=gb339) (o:=.cells #[.int .i64 0,.int .i64 0] 30 (0,0)) (by (with_reducible repeat (first|refine bDn ?_ _|refine bDr ?_|refine bAl ?_ _));exact BK339.out) hb);have n1_:=aMk (below_step (by repeat (first|(with_reducible first|exact HB.out|apply bwA|apply bwN|apply bw1|refine below_set ?_ GE339.out)|exact HB.out)) hb);clear BK339;clear HB;have BK339:=n0_;have HB:=n1_;clear n0_ n1_;(try clear hb);(try clear hb2);(try clear hk);(try clear hi))|((with_reducible refine gate_callee (f:=48) rfl ?_);refine goesL_ (some 25) rfl rfl Tryd.func48 (by kernel_rfl) rfl #[.string t341,.int .i64 0,.int .i64 32] rfl (by (try simp only [List.map_toArray,List.map_cons,List.map_nil]);first | done | rfl|(simp only [List.length_drop,List.length_take];rfl)) ?_;(with_reducible refine (impl_numberIn.calls t341 0 32 t345 t346 _ ?sideGe ?sideGp A4.out).mono ?_);(case sideGe => exact GLe_below HGe_.out (by repeat (first|(with_reducible first|exact HB.out|apply bwA|apply bwN|apply bw1|refine below_set ?_ (Aside0.out (by assumption)))|exact HB.out)));(case sideGp => exact GLp_below HGp_.out (by repeat (first|(with_reducible first|exact HB.out|apply bwA|apply bwN|apply bw1|refine below_set ?_ (Aside0.out (by assumption)))|exact HB.out)));rintro e w42 ⟨rfl,hb⟩;refine ⟨_,rfl,?_⟩;have n0_:=aMk (blk_below (g:=gb339) (o:=.cells #[.int .i64 0,.int .i64 0] 30 (0,0)) (by (with_reducible repeat (first|refine bDn ?_ _|refine bDr ?_|refine bAl ?_ _));exact BK339.out) hb);have n1_:=aMk (below_step (by repeat (first|(with_reducible first|exact HB.out|apply bwA|apply bwN|apply bw1|refine below_set ?_ GE339.out)|exact HB.out)) hb);clear BK339;clear HB;have BK339:=n0_;have HB:=n1_;clear n0_ n1_;(try clear hb);(try clear hb2);(try clear hk);(try clear hi))|((with_reducible refine gate_dst (N:=11) rfl ?_);refine box_event ?hg (N:=11) ?hd (cs:=#[.int .i64 0,.int .i64 0]) (t:=30) ?hr ?_;(case hd => rfl);(case hg => rfl);(case hr => first|(go_simp;done)|(go_simp;rfl));intro gb347 hg w43 hbox hb;have n0_:=aMk (blk_below (g:=gb339) (o:=.cells #[.int .i64 0,.int .i64 0] 30 (0,0)) (by (with_reducible repeat (first|refine bDn ?_ _|refine bDr ?_|refine bAl ?_ _));exact BK339.out) hb);have n1_:=aMk (below_step (by repeat (first|(with_reducible first|exact HB.out|apply bwA|apply bwN|apply bw1|refine below_set ?_ GE339.out)|exact HB.out)) hb);have n2_:=aMk (hbox);have n3_:=aMk ((by rw [hg];exact (below_size (by repeat (first|(with_reducible first|exact HB.out|apply bwA|apply bwN|apply bw1|refine below_set ?_ GE339.out)|exact HB.out))) : w.heap.size ≤ gb347));have n4_:=aMk ((by rw [hg];exact (below_size (by repeat (first|(with_reducible first|exact HB.out|apply bwA|apply bwN|apply bw1|refine below_set ?_ GE339.out)|exact HB.out))) : w.heap.size ≤ gb347));have n5_:=aMk ((by rw [hg];exact Nat.ne_of_lt (blk_lt (g:=gb339) (o:=.cells #[.int .i64 0,.int .i64 0] 30 (0,0)) (by (with_reducible repeat (first|refine bDn ?_ _|refine bDr ?_|refine bAl ?_ _));exact BK339.out)) : gb339 ≠ gb347));have n6_:=aMk ((by rw [hg];exact Nat.ne_of_gt (blk_lt (g:=gb339) (o:=.cells #[.int .i64 0,.int .i64 0] 30 (0,0)) (by (with_reducible repeat (first|refine bDn ?_ _|refine bDr ?_|refine bAl ?_ _));exact BK339.out)) : gb347 ≠ gb339));clear BK339;clear HB;have BK339:=n0_;have HB:=n1_;have BK347:=n2_;have GW347:=n3_;have GE347:=n4_;have NB339_347:=n5_;have NB347_339:=n6_;clear n0_ n1_ n2_ n3_ n4_ n5_ n6_;clear hb hbox hg;have hnb44:=NB347_339.out;have hnc44:=NB339_347.out;have hcz45_0 : w43.cell? ⟨gb347,0,none⟩ = some (.int .i64 0):=(bCe BK347.out 0).trans rfl;have hcz45_1 : w43.cell? ⟨gb347,1,none⟩ = some (.int .i64 0):=(bCe BK347.out 1).trans rfl;have hfz45_0:=bFr BK347.out 0;have hfz45_1:=bFr BK347.out 1))
  (try (repeat rw [show ∀ (w_ : World) (n_ : Nat) (a_ : Addr) (v_ : Value),(w_.drewN n_).setCell a_ v_ = (w_.setCell a_ v_).drewN n_ from fun _ _ _ _ => rfl]));(try (repeat rw [World.drewN_drewN]))
  have n0_ : Aside0 (((w43.setCell ⟨gb347,0,none⟩ (.int .i64 t343)).setCell ⟨gb347,1,none⟩ (.int .i64 t345)).heap[gb339]? = some (.cells #[.int .i64 0,.int .i64 0] 30 (0,0))):=⟨by (with_reducible repeat (first|refine bDn ?_ _|refine bDr ?_|refine bAl ?_ _));refine blk_far ?_ NB339_347.out _;(with_reducible repeat (first|refine bDn ?_ _|refine bDr ?_|refine bAl ?_ _));refine blk_far ?_ NB339_347.out _;(with_reducible repeat (first|refine bDn ?_ _|refine bDr ?_|refine bAl ?_ _));exact BK339.out⟩
  have n1_ : Aside0 (((w43.setCell ⟨gb347,0,none⟩ (.int .i64 t343)).setCell ⟨gb347,1,none⟩ (.int .i64 t345)).heap[gb347]? = some (.cells #[.int .i64 t343,.int .i64 t345] 30 (0,0))):=⟨by (with_reducible repeat (first|refine bDn ?_ _|refine bDr ?_|refine bAl ?_ _));refine blk_put (cs:=#[.int .i64 t343,.int .i64 0]) ?_ 1 _ rfl;(with_reducible repeat (first|refine bDn ?_ _|refine bDr ?_|refine bAl ?_ _));refine blk_put (cs:=#[.int .i64 0,.int .i64 0]) ?_ 0 _ rfl;(with_reducible repeat (first|refine bDn ?_ _|refine bDr ?_|refine bAl ?_ _));exact BK347.out⟩
  have n2_ : Aside0 (Below w.heap.size w ((w43.setCell ⟨gb347,0,none⟩ (.int .i64 t343)).setCell ⟨gb347,1,none⟩ (.int .i64 t345))):=⟨by repeat (first|(with_reducible first|exact HB.out|apply bwA|apply bwN|apply bw1|refine below_set ?_ GE339.out|refine below_set ?_ GE347.out)|exact HB.out)⟩
  (try clear BK339)
  (try clear BK347)
  (try clear HB)
  generalize ((w43.setCell ⟨gb347,0,none⟩ (.int .i64 t343)).setCell ⟨gb347,1,none⟩ (.int .i64 t345)) = w46 at n0_ n1_ n2_ ⊢
  have BK339:=n0_
  have BK347:=n1_
  have HB:=n2_
  clear n0_ n1_ n2_
  have n0_:=aMk (bDr BK339.out)
  have n1_:=aMk (bDr BK347.out)
  have n2_:=aMk (bw1 HB.out)
  clear BK339
  clear BK347
  clear HB
  have BK339:=n0_
  have BK347:=n1_
  have HB:=n2_
  clear n0_ n1_ n2_
  refine start_ (n:=14) (S:=fun w' => w'.cell? ⟨gb347,0,none⟩ = some (.int .i64 t343) ∧ w'.cell? ⟨gb347,1,none⟩ = some (.int .i64 t345)) (ds:=[]) #[false,false,false,false,false,false,false,false,false,false,false,false,false,false] (by kernel_rfl) rfl rfl ⟨(bCe BK347.out 0).trans rfl,(bCe BK347.out 1).trans rfl⟩ (fun hHeld => ?_);refine with_tabW impl_readNet.tab5 impl_readNet.bits5 (fun HT_ HW_ => ?_)
  generalize w46.drew = w47 at BK339 BK347 HB hHeld ⊢
  refine pure_ (i:=1) (N:=some 32) (v:=?_) (a':=?_) #[false,true,false,false,false,false,false,false,false,false,false,false,false,false] rfl rfl (any_of HT_.out (by kernel_rfl)) (fun _ _ _ h => h) (Or.inl ⟨by rfl,?_⟩) ?_ ?_
  rotate_left
  ·intro w'
   go_simp
   with_reducible rfl
  rotate_left
  ·simp only [Act.put,List.setIfInBounds_toArray,List.set_cons_zero,List.set_cons_succ,i64_w,i32_w]
   rfl
  refine pure_ (i:=2) (N:=some 33) (v:=?_) (a':=?_) #[false,true,true,false,false,false,false,false,false,false,false,false,false,false] rfl rfl (any_of HT_.out (by kernel_rfl)) (fun _ _ _ h => h) (Or.inl ⟨by rfl,?_⟩) ?_ ?_
  rotate_left
  ·intro w'
   go_simp
   with_reducible rfl
  rotate_left
  ·simp only [Act.put,List.setIfInBounds_toArray,List.set_cons_zero,List.set_cons_succ,i64_w,i32_w]
   rfl
  refine pure_ (i:=3) (N:=some 34) (v:=undef) (a':=?_) #[false,true,true,true,false,false,false,false,false,false,false,false,false,false] rfl rfl (any_of HT_.out (by kernel_rfl)) (fun _ _ _ h => h) (Or.inr ⟨by rfl,rfl⟩) ?_ ?_
  rotate_left
  ·simp only [Act.put,List.setIfInBounds_toArray,List.set_cons_zero,List.set_cons_succ,i64_w,i32_w]
   rfl
  refine pure_ (i:=4) (N:=some 35) (v:=?_) (a':=?_) #[false,true,true,true,true,false,false,false,false,false,false,false,false,false] rfl rfl (any_of HT_.out (by kernel_rfl)) (fun _ _ _ h => h) (Or.inl ⟨by rfl,?_⟩) ?_ ?_
  rotate_left
  ·intro w'
   go_simp
   with_reducible rfl
  rotate_left
  ·simp only [Act.put,List.setIfInBounds_toArray,List.set_cons_zero,List.set_cons_succ,i64_w,i32_w]
   rfl
  refine pure_ (i:=5) (N:=some 36) (v:=?_) (a':=?_) #[false,true,true,true,true,true,false,false,false,false,false,false,false,false] rfl rfl (any_of HT_.out (by kernel_rfl)) (fun _ _ _ h => h) (Or.inl ⟨by rfl,?_⟩) ?_ ?_
  rotate_left
  ·intro w'
   go_simp
   with_reducible rfl
  rotate_left
  ·simp only [Act.put,List.setIfInBounds_toArray,List.set_cons_zero,List.set_cons_succ,i64_w,i32_w]
   rfl
  refine pure_ (i:=6) (N:=some 37) (v:=undef) (a':=?_) #[false,true,true,true,true,true,true,false,false,false,false,false,false,false] rfl rfl (any_of HT_.out (by kernel_rfl)) (fun _ _ _ h => h) (Or.inr ⟨by rfl,rfl⟩) ?_ ?_
  rotate_left
  ·simp only [Act.put,List.setIfInBounds_toArray,List.set_cons_zero,List.set_cons_succ,i64_w,i32_w]
   rfl
  refine pure_ (i:=7) (N:=some 38) (v:=?_) (a':=?_) #[false,true,true,true,true,true,true,true,false,false,false,false,false,false] rfl rfl (any_of HT_.out (by kernel_rfl)) (fun _ _ _ h => h) (Or.inl ⟨by rfl,?_⟩) ?_ ?_
  rotate_left
  ·intro w'
   go_simp
   with_reducible rfl
  rotate_left
  ·simp only [Act.put,List.setIfInBounds_toArray,List.set_cons_zero,List.set_cons_succ,i64_w,i32_w]
   rfl
  refine pure_ (i:=8) (N:=some 39) (v:=?_) (a':=?_) #[false,true,true,true,true,true,true,true,true,false,false,false,false,false] rfl rfl (any_of HT_.out (by kernel_rfl)) (fun _ _ _ h => h) (Or.inl ⟨by rfl,?_⟩) ?_ ?_
  rotate_left
  ·intro w'
   go_simp
   with_reducible rfl
  rotate_left
  ·simp only [Act.put,List.setIfInBounds_toArray,List.set_cons_zero,List.set_cons_succ,i64_w,i32_w]
   rfl
  refine pure_ (i:=9) (N:=some 40) (v:=undef) (a':=?_) #[false,true,true,true,true,true,true,true,true,true,false,false,false,false] rfl rfl (any_of HT_.out (by kernel_rfl)) (fun _ _ _ h => h) (Or.inr ⟨by rfl,rfl⟩) ?_ ?_
  rotate_left
  ·simp only [Act.put,List.setIfInBounds_toArray,List.set_cons_zero,List.set_cons_succ,i64_w,i32_w]
   rfl
  refine pure_ (i:=10) (N:=some 41) (v:=undef) (a':=?_) #[false,true,true,true,true,true,true,true,true,true,true,false,false,false] rfl rfl (any_of HT_.out (by kernel_rfl)) (fun _ _ _ h => h) (Or.inr ⟨by rfl,rfl⟩) ?_ ?_
  rotate_left
  ·simp only [Act.put,List.setIfInBounds_toArray,List.set_cons_zero,List.set_cons_succ,i64_w,i32_w]
   rfl
  refine pure_ (i:=11) (N:=some 42) (v:=?_) (a':=?_) #[false,true,true,true,true,true,true,true,true,true,true,true,false,false] rfl rfl (any_of HT_.out (by kernel_rfl)) (fun _ _ _ h => h) (Or.inl ⟨by rfl,?_⟩) ?_ ?_
  rotate_left
  ·intro w'
   go_simp
   with_reducible rfl
  rotate_left
  ·simp only [Act.put,List.setIfInBounds_toArray,List.set_cons_zero,List.set_cons_succ,i64_w,i32_w]
   rfl
  refine take_ (i:=0) (N:=some 31) (v:=?_) (a':=?_) #[true,true,true,true,true,true,true,true,true,true,true,true,false,false] rfl rfl (take_ofW HT_.out HW_.out (by kernel_rfl)) (fun _ _ _ h => h) (Or.inl ⟨by rfl,?_⟩) hHeld ?_ ?_
  rotate_left
  ·rintro w' ⟨s0,s1⟩
   go_simp
   with_reducible rfl
  rotate_left
  ·simp only [Act.put,List.setIfInBounds_toArray,List.set_cons_zero,List.set_cons_succ,i64_w,i32_w]
   rfl
  refine one_ (i:=12) (N:=none) #[true,true,true,true,true,true,true,true,true,true,true,true,true,false] rfl rfl (one_of HT_.out (by kernel_rfl)) (by decide) (fun K hK => ?_)
  have hs48 : w47.cell? ⟨gb339,0,none⟩ = some (.int .i64 0):=(bCe BK339.out 0).trans rfl
  have hfs48:=bFr BK339.out 0
  have hns48_1:=NB347_339.out
  have hms48_1:=NB339_347.out
  have hs49 : w47.cell? ⟨gb339,1,none⟩ = some (.int .i64 0):=(bCe BK339.out 1).trans rfl
  have hfs49:=bFr BK339.out 1
  have hns49_1:=NB347_339.out
  have hms49_1:=NB339_347.out
  refine skip_ (w1:=?_) (by rfl) rfl ?_ ?_
  rotate_left
  ·go_simp
   rfl
  refine hK.out _ _ ⟨((cell_far (p:=⟨gb339,_,none⟩) NB347_339.out _).trans (((cell_far (p:=⟨gb339,_,none⟩) NB347_339.out _).trans (hHeld.1)))),((cell_far (p:=⟨gb339,_,none⟩) NB347_339.out _).trans (((cell_far (p:=⟨gb339,_,none⟩) NB347_339.out _).trans (hHeld.2))))⟩ (fun hHeld => ?_)
  clear hK K
  refine pure_ (i:=13) (N:=some 3) (v:=?_) (a':=?_) #[true,true,true,true,true,true,true,true,true,true,true,true,true,true] rfl rfl (any_of HT_.out (by kernel_rfl)) (fun _ _ _ h => h) (Or.inl ⟨by rfl,?_⟩) ?_ ?_
  rotate_left
  ·intro w'
   go_simp
   with_reducible rfl
  rotate_left
  ·simp only [Act.put,List.setIfInBounds_toArray,List.set_cons_zero,List.set_cons_succ,i64_w,i32_w]
   rfl
  refine done_ (done_of HT_.out (by kernel_rfl)) ?_
  try go_wp2
  refine bodyPost_ret (results_ct rfl _ _ gb339 30 #[.int .i64 t343,.int .i64 t345] (0,0) _ rfl (by (with_reducible repeat (first|refine bDn ?_ _|refine bDr ?_|refine bAl ?_ _));refine blk_put (cs:=#[.int .i64 t343,.int .i64 0]) ?_ 1 _ rfl;(with_reducible repeat (first|refine bDn ?_ _|refine bDr ?_|refine bAl ?_ _));refine blk_put (cs:=#[.int .i64 0,.int .i64 0]) ?_ 0 _ rfl;(with_reducible repeat (first|refine bDn ?_ _|refine bDr ?_|refine bAl ?_ _));exact BK339.out) Tryd.underlying30 rfl (by kernel_rfl)) rfl ?_
  exact ⟨by first | rfl|(simp [errW_none,errW_some] <;> rfl)|(simp [*,errW_none,errW_some] <;> rfl),by repeat (first|(with_reducible first|exact HB.out|apply bwA|apply bwN|apply bw1|refine below_set ?_ GE339.out|refine below_set ?_ GE347.out)|exact HB.out)⟩
end
end Go.Proofs.YtiemmhhjiplnlaaDoor.X
