/- The program's ConnSay returns what the reference's ConnSay returns, for all arguments. Conditions: none beyond the row's own reach. -/
import Derived.Test.YtlpkldomoniegaaCFnExactConnSay5
import Derived.Test.YtlpkldomoniegaaRows
namespace Go.Proofs.Ytlpkldomoniegaa.X
open Go.RowKit Go.Proofs.YtlpkldomoniegaaW.PrintWords Go.Proofs.YtlpkldomoniegaaW.PrintLast Go.Proofs.YtlpkldomoniegaaW.PrintMore
attribute [local go_sem] max2_int min2_int max_two min_two max_three min_three max_four min_four   -- for this text's walks alone
set_option linter.unusedVariables false
set_option linter.unusedSimpArgs false
open Go.Proofs.YtlpkldomoniegaaW.PrintWords renaming blk_drewN -> bDn
open Go.Proofs.YtlpkldomoniegaaW.PrintWords renaming blk_drew -> bDr
open Go.Proofs.YtlpkldomoniegaaW.PrintWords renaming blk_alloc -> bAl
open Go.Proofs.YtlpkldomoniegaaW.PrintWords renaming blk_frozen -> bFr
open Go.Proofs.YtlpkldomoniegaaW.PrintWords renaming blk_cell -> bCe
open Go.Proofs.YtlpkldomoniegaaW.PrintWords.Aside0 renaming mk -> aMk
open Go.World renaming block_lt_of_cell? -> wLt
open Go.Proofs.YtlpkldomoniegaaW.PrintWords renaming pw_below_drewN -> bwN
open Go.Proofs.YtlpkldomoniegaaW.PrintWords renaming below_drew1 -> bw1
open Go.Proofs.YtlpkldomoniegaaW.PrintWords renaming below_alloc -> bwA
section
/-! ### impl_Conn_again: function 91 -/
def impl_Conn_again.f (k : Nat) (s0_0 : ByteArray) (s0_1 : Int) (s0_2 : Int) (s0_3 : Int) (s0_4 : Int) (s0_5 : Int) (s0_6 : Int) (s0_7 : Int) (s0_8 : ByteArray) (s0_9 : ByteArray) (s0_10 : Bool) : Option ((List (S53))):=if s0_4 = 1 then ((impl_Conn_opened.f s0_0 s0_1 s0_2 s0_3 s0_4 s0_5 s0_6 s0_7 s0_8 s0_9 s0_10).bind fun t572 => (some t572)) else (if s0_10 = true then ((impl_Conn_pieces.f k s0_0 s0_1 s0_2 s0_3 s0_4 s0_5 s0_6 s0_7 s0_8 s0_9 s0_10 s0_5 s0_9).bind fun t575 => (some t575)) else (some ([] : List (S53))))
theorem impl_Conn_again.mono : ∀ a0 a1 a2 a3 a4 a5 a6 a7 a8 a9 a10 k,LeO (impl_Conn_again.f k a0 a1 a2 a3 a4 a5 a6 a7 a8 a9 a10) (impl_Conn_again.f (k + 1) a0 a1 a2 a3 a4 a5 a6 a7 a8 a9 a10):=by
 intro a0 a1 a2 a3 a4 a5 a6 a7 a8 a9 a10 k
 unfold impl_Conn_again.f
 repeat' first
   | (with_reducible exact impl_Conn_pieces.mono ..)
   | (with_reducible exact LeO.refl _)
   | (with_reducible exact LeO.none _)
   | (with_reducible refine LeO.ite ?_ ?_)
   | (with_reducible refine LeO.bind ?_ (fun _ => ?_))
   | exact impl_Conn_pieces.mono ..
   | exact LeO.none _
   | refine LeO.ite ?_ ?_
   | refine LeO.bind ?_ (fun _ => ?_)
def impl_Conn_again.T4 : Bool × List (List Nat × List Nat):=(true,[([],[]),([],[]),([1],[1]),([2],[2]),([3],[3]),([],[]),([5],[5]),([6],[6]),([7],[7]),([0,4,8],[0,4,8]),([9,9,0,1,2,3,4,5,6,7,8,9],[9])])
def impl_Conn_again.B4 : List Nat:=[0,0,2,6,14,0,32,96,224,511,1023]
theorem impl_Conn_again.tab4 : rtab .any (opsOf Try.f91 4) = impl_Conn_again.T4:=by kernel_rfl
theorem impl_Conn_again.bits4 : waitsOk impl_Conn_again.T4.2 impl_Conn_again.B4 = true:=by kernel_rfl
set_option maxHeartbeats 8000000 in
set_option maxRecDepth 100000 in
theorem impl_Conn_again.calls (k : Nat) (g : Nat) (s0_0 : ByteArray) (s0_1 : Int) (s0_2 : Int) (s0_3 : Int) (s0_4 : Int) (s0_5 : Int) (s0_6 : Int) (s0_7 : Int) (s0_8 : ByteArray) (s0_9 : ByteArray) (s0_10 : Bool) (r : List (S53)) (w0 w : World) (hI : IsS34 w0 w g s0_0 s0_1 s0_2 s0_3 s0_4 s0_5 s0_6 s0_7 s0_8 s0_9 s0_10) (hB : Below w0.heap.size w0 w) (h : impl_Conn_again.f k s0_0 s0_1 s0_2 s0_3 s0_4 s0_5 s0_6 s0_7 s0_8 s0_9 s0_10 = some r) :
  Calls Try.prog 91 #[.pointer (some ⟨g,0,none⟩)] w fun e w' => ∃ v0_ : Value,e = .returned (v0_) ∧ Kd.R k53 53 w' w.heap.size (fun _ => True) v0_ r ∧ IsS34 w0 w' g s0_0 s0_1 s0_2 s0_3 s0_4 s0_5 s0_6 s0_7 s0_8 s0_9 s0_10 ∧ Below w0.heap.size w0 w' ∧ KeepBut w w' g none:=by
 have HI0:=aMk hI
 have HK:=aMk (KeepBut.refl w g none)
 have HL:=aMk hB.size
 clear hI
 have HW0:=aMk hB.size
 have HB:=aMk hB
 clear hB
 have H : (if s0_4 = 1 then ((impl_Conn_opened.f s0_0 s0_1 s0_2 s0_3 s0_4 s0_5 s0_6 s0_7 s0_8 s0_9 s0_10).bind fun t572 => (some t572)) else (if s0_10 = true then ((impl_Conn_pieces.f k s0_0 s0_1 s0_2 s0_3 s0_4 s0_5 s0_6 s0_7 s0_8 s0_9 s0_10 s0_5 s0_9).bind fun t575 => (some t575)) else (some ([] : List (S53))))) = some r:=h
 clear h
 by_cases c2 : s0_4 = 1
 ·rw [if_pos c2] at H
  have c2b0 : (s0_4 == 1) = true:=beq_iff_eq.mpr c2
  have c2b1 : (s0_4 != 1) = false:=bne_eq_false_iff_eq.mpr c2
  clear c2
  replace H:=Option.bind_eq_some_iff.mp H
  obtain ⟨t572,A30,H⟩:=H
  replace H : (some t572) = some r:=H
  have A3:=aMk A30
  clear A30
  obtain rfl:=Option.some.inj H
  obtain ⟨HGz4,hgz4⟩:=HI0.out
  have hcz4_0:=cellS34_0 HGz4
  have hcz4_1:=cellS34_1 HGz4
  have hcz4_2:=cellS34_2 HGz4
  have hcz4_3:=cellS34_3 HGz4
  have hcz4_4:=cellS34_4 HGz4
  have hcz4_5:=cellS34_5 HGz4
  have hcz4_6:=cellS34_6 HGz4
  have hcz4_7:=cellS34_7 HGz4
  have hcz4_8:=cellS34_8 HGz4
  have hcz4_9:=cellS34_9 HGz4
  have hcz4_10:=cellS34_10 HGz4
  have hfz4_0:=bFr HGz4 0
  have hfz4_1:=bFr HGz4 1
  have hfz4_2:=bFr HGz4 2
  have hfz4_3:=bFr HGz4 3
  have hfz4_4:=bFr HGz4 4
  have hfz4_5:=bFr HGz4 5
  have hfz4_6:=bFr HGz4 6
  have hfz4_7:=bFr HGz4 7
  have hfz4_8:=bFr HGz4 8
  have hfz4_9:=bFr HGz4 9
  have hfz4_10:=bFr HGz4 10
  clear HGz4 hgz4
  go_enter Try.func91,Try.ntmps91
  go_wp2_with (first|((with_reducible refine gate_callee (f:=87) rfl ?_);refine goesL_ (some 10) rfl rfl Try.func87 (by kernel_rfl) rfl #[.pointer (some ⟨g,0,none⟩)] rfl (by (try simp only [List.map_toArray,List.map_cons,List.map_nil]);first | done | rfl|(simp only [List.length_drop,List.length_take];rfl)) ?_;(with_reducible refine (impl_Conn_opened.calls g s0_0 s0_1 s0_2 s0_3 s0_4 s0_5 s0_6 s0_7 s0_8 s0_9 s0_10 t572 w0 _ ?side1 ?side2 A3.out).mono ?_);(case side1 => repeat (first|(with_reducible first|exact HI0.out|apply IsS34.alloc|apply IsS34.drewN|apply IsS34.drew|apply IsS34.set_0|apply IsS34.set_1|apply IsS34.set_2|apply IsS34.set_3|apply IsS34.set_4|apply IsS34.set_5|apply IsS34.set_6|apply IsS34.set_7|apply IsS34.set_8|apply IsS34.set_9|apply IsS34.set_10)|exact HI0.out));(case side2 => repeat (first|(with_reducible first|exact HB.out|apply bwA|apply bwN|apply bw1|refine below_set ?_ (IsS34.ge HI0.out))|exact HB.out));rintro e w5 ⟨v573,rfl,ho0,hi,hb,hk⟩;refine ⟨_,rfl,?_⟩;have n0_:=aMk (Kd.R_lower ho0 (keep_size (w:=w) (g:=g) (row:=none) (by repeat (first|(with_reducible first|exact HK.out|apply KeepBut.set_|apply keep_drewN|apply keep_drew|apply keep_alloc)|exact HK.out))));have n1_:=aMk (KeepBut.trans (by repeat (first|(with_reducible first|exact HK.out|apply KeepBut.set_|apply keep_drewN|apply keep_drew|apply keep_alloc)|exact HK.out)) hk (.inl rfl));have n2_:=aMk (hb);have n3_:=aMk (hi);clear HK;clear HB;clear HI0;have HO574:=n0_;have HK:=n1_;have HB:=n2_;have HI0:=n3_;clear n0_ n1_ n2_ n3_;(try clear hb);(try clear hb2);(try clear hk);(try clear hi);(try clear ho0)))
  go_ret
  exact ⟨_,by first | rfl|(simp [errW_none,errW_some] <;> rfl)|(simp [*,errW_none,errW_some] <;> rfl),by (with_reducible repeat (first|apply Kd.R_alloc|apply Kd.R_drewN|apply Kd.R_drew));exact HO574.out,by repeat (first|(with_reducible first|exact HI0.out|apply IsS34.alloc|apply IsS34.drewN|apply IsS34.drew|apply IsS34.set_0|apply IsS34.set_1|apply IsS34.set_2|apply IsS34.set_3|apply IsS34.set_4|apply IsS34.set_5|apply IsS34.set_6|apply IsS34.set_7|apply IsS34.set_8|apply IsS34.set_9|apply IsS34.set_10)|exact HI0.out),by repeat (first|(with_reducible first|exact HB.out|apply bwA|apply bwN|apply bw1|refine below_set ?_ (IsS34.ge HI0.out))|exact HB.out),by repeat (first|(with_reducible first|exact HK.out|apply KeepBut.set_|apply keep_drewN|apply keep_drew|apply keep_alloc)|exact HK.out)⟩
 ·rw [if_neg c2] at H
  have c2b0 : (s0_4 == 1) = false:=beq_eq_false_iff_ne.mpr c2
  have c2b1 : (s0_4 != 1) = true:=bne_iff_ne.mpr c2
  by_cases c6 : s0_10 = true
  ·subst c6
   have H1 : ((impl_Conn_pieces.f k s0_0 s0_1 s0_2 s0_3 s0_4 s0_5 s0_6 s0_7 s0_8 s0_9 true s0_5 s0_9).bind fun t575 => (some t575)) = some r:=by rw [if_pos rfl] at H;exact H
   clear H
   have H:=H1
   clear H1
   replace H:=Option.bind_eq_some_iff.mp H
   obtain ⟨t575,A70,H⟩:=H
   replace H : (some t575) = some r:=H
   have A7:=aMk A70
   clear A70
   obtain rfl:=Option.some.inj H
   obtain ⟨HGz8,hgz8⟩:=HI0.out
   have hcz8_0:=cellS34_0 HGz8
   have hcz8_1:=cellS34_1 HGz8
   have hcz8_2:=cellS34_2 HGz8
   have hcz8_3:=cellS34_3 HGz8
   have hcz8_4:=cellS34_4 HGz8
   have hcz8_5:=cellS34_5 HGz8
   have hcz8_6:=cellS34_6 HGz8
   have hcz8_7:=cellS34_7 HGz8
   have hcz8_8:=cellS34_8 HGz8
   have hcz8_9:=cellS34_9 HGz8
   have hcz8_10:=cellS34_10 HGz8
   have hfz8_0:=bFr HGz8 0
   have hfz8_1:=bFr HGz8 1
   have hfz8_2:=bFr HGz8 2
   have hfz8_3:=bFr HGz8 3
   have hfz8_4:=bFr HGz8 4
   have hfz8_5:=bFr HGz8 5
   have hfz8_6:=bFr HGz8 6
   have hfz8_7:=bFr HGz8 7
   have hfz8_8:=bFr HGz8 8
   have hfz8_9:=bFr HGz8 9
   have hfz8_10:=bFr HGz8 10
   clear HGz8 hgz8
   go_enter Try.func91,Try.ntmps91
   try go_wp2
   have n0_:=aMk (IsS34.drew HI0.out)
   have n1_:=aMk (keep_drew HK.out)
   have n2_:=aMk (bw1 HB.out)
   clear HI0
   clear HK
   clear HB
   have HI0:=n0_
   have HK:=n1_
   have HB:=n2_
   clear n0_ n1_ n2_
   refine start_ (n:=11) (S:=fun w' => w'.cell? ⟨g,0,none⟩ = some (.string s0_0) ∧ w'.cell? ⟨g,1,none⟩ = some (.int .i64 s0_1) ∧ w'.cell? ⟨g,2,none⟩ = some (.int .i64 s0_2) ∧ w'.cell? ⟨g,3,none⟩ = some (.int .i64 s0_3) ∧ w'.cell? ⟨g,4,none⟩ = some (.int .i64 s0_4) ∧ w'.cell? ⟨g,5,none⟩ = some (.int .i64 s0_5) ∧ w'.cell? ⟨g,6,none⟩ = some (.int .i64 s0_6) ∧ w'.cell? ⟨g,7,none⟩ = some (.int .i64 s0_7) ∧ w'.cell? ⟨g,8,none⟩ = some (.string s0_8) ∧ w'.cell? ⟨g,9,none⟩ = some (.string s0_9) ∧ w'.cell? ⟨g,10,none⟩ = some (.bool true)) (ds:=[]) #[false,false,false,false,false,false,false,false,false,false,false] (by kernel_rfl) rfl rfl ⟨(cellS34_0 HI0.out.1),(cellS34_1 HI0.out.1),(cellS34_2 HI0.out.1),(cellS34_3 HI0.out.1),(cellS34_4 HI0.out.1),(cellS34_5 HI0.out.1),(cellS34_6 HI0.out.1),(cellS34_7 HI0.out.1),(cellS34_8 HI0.out.1),(cellS34_9 HI0.out.1),(cellS34_10 HI0.out.1)⟩ (fun hHeld => ?_);refine with_tabW impl_Conn_again.tab4 impl_Conn_again.bits4 (fun HT_ HW_ => ?_)
   generalize w.drew = w9 at HI0 HK HB hHeld ⊢
   refine pure_ (i:=0) (N:=some 16) (v:=?_) (a':=?_) #[true,false,false,false,false,false,false,false,false,false,false] rfl rfl (any_of HT_.out (by kernel_rfl)) (fun _ _ _ h => h) (Or.inl ⟨by rfl,?_⟩) ?_ ?_
   rotate_left
   ·intro w'
    go_simp
    with_reducible rfl
   rotate_left
   ·simp only [Act.put,List.setIfInBounds_toArray,List.set_cons_zero,List.set_cons_succ,i64_w,i32_w]
    rfl
   refine pure_ (i:=1) (N:=some 17) (v:=?_) (a':=?_) #[true,true,false,false,false,false,false,false,false,false,false] rfl rfl (any_of HT_.out (by kernel_rfl)) (fun _ _ _ h => h) (Or.inl ⟨by rfl,?_⟩) ?_ ?_
   rotate_left
   ·intro w'
    go_simp
    with_reducible rfl
   rotate_left
   ·simp only [Act.put,List.setIfInBounds_toArray,List.set_cons_zero,List.set_cons_succ,i64_w,i32_w]
    rfl
   refine pure_ (i:=2) (N:=some 18) (v:=?_) (a':=?_) #[true,true,true,false,false,false,false,false,false,false,false] rfl rfl (any_of HT_.out (by kernel_rfl)) (fun _ _ _ h => h) (Or.inl ⟨by rfl,?_⟩) ?_ ?_
   rotate_left
   ·intro w'
    go_simp
    with_reducible rfl
   rotate_left
   ·simp only [Act.put,List.setIfInBounds_toArray,List.set_cons_zero,List.set_cons_succ,i64_w,i32_w]
    rfl
   refine pure_ (i:=3) (N:=some 19) (v:=?_) (a':=?_) #[true,true,true,true,false,false,false,false,false,false,false] rfl rfl (any_of HT_.out (by kernel_rfl)) (fun _ _ _ h => h) (Or.inl ⟨by rfl,?_⟩) ?_ ?_
   rotate_left
   ·intro w'
    go_simp
    with_reducible rfl
   rotate_left
   ·simp only [Act.put,List.setIfInBounds_toArray,List.set_cons_zero,List.set_cons_succ,i64_w,i32_w]
    rfl
   refine pure_ (i:=5) (N:=some 21) (v:=?_) (a':=?_) #[true,true,true,true,false,true,false,false,false,false,false] rfl rfl (any_of HT_.out (by kernel_rfl)) (fun _ _ _ h => h) (Or.inl ⟨by rfl,?_⟩) ?_ ?_
   rotate_left
   ·intro w'
    go_simp
    with_reducible rfl
   rotate_left
   ·simp only [Act.put,List.setIfInBounds_toArray,List.set_cons_zero,List.set_cons_succ,i64_w,i32_w]
    rfl
   refine pure_ (i:=6) (N:=some 22) (v:=?_) (a':=?_) #[true,true,true,true,false,true,true,false,false,false,false] rfl rfl (any_of HT_.out (by kernel_rfl)) (fun _ _ _ h => h) (Or.inl ⟨by rfl,?_⟩) ?_ ?_
   rotate_left
   ·intro w'
    go_simp
    with_reducible rfl
   rotate_left
   ·simp only [Act.put,List.setIfInBounds_toArray,List.set_cons_zero,List.set_cons_succ,i64_w,i32_w]
    rfl
   refine pure_ (i:=7) (N:=some 23) (v:=?_) (a':=?_) #[true,true,true,true,false,true,true,true,false,false,false] rfl rfl (any_of HT_.out (by kernel_rfl)) (fun _ _ _ h => h) (Or.inl ⟨by rfl,?_⟩) ?_ ?_
   rotate_left
   ·intro w'
    go_simp
    with_reducible rfl
   rotate_left
   ·simp only [Act.put,List.setIfInBounds_toArray,List.set_cons_zero,List.set_cons_succ,i64_w,i32_w]
    rfl
   refine take_ (i:=4) (N:=some 20) (v:=?_) (a':=?_) #[true,true,true,true,true,true,true,true,false,false,false] rfl rfl (take_ofW HT_.out HW_.out (by kernel_rfl)) (fun _ _ _ h => h) (Or.inl ⟨by rfl,?_⟩) hHeld ?_ ?_
   rotate_left
   ·rintro w' ⟨s0,s1,s2,s3,s4,s5,s6,s7,s8,s9,s10⟩
    go_simp
    with_reducible rfl
   rotate_left
   ·simp only [Act.put,List.setIfInBounds_toArray,List.set_cons_zero,List.set_cons_succ,i64_w,i32_w]
    rfl
   refine take_ (i:=8) (N:=some 24) (v:=?_) (a':=?_) #[true,true,true,true,true,true,true,true,true,false,false] rfl rfl (take_ofW HT_.out HW_.out (by kernel_rfl)) (fun _ _ _ h => h) (Or.inl ⟨by rfl,?_⟩) hHeld ?_ ?_
   rotate_left
   ·rintro w' ⟨s0,s1,s2,s3,s4,s5,s6,s7,s8,s9,s10⟩
    go_simp
    with_reducible rfl
   rotate_left
   ·simp only [Act.put,List.setIfInBounds_toArray,List.set_cons_zero,List.set_cons_succ,i64_w,i32_w]
    rfl
   refine one_ (i:=9) (N:=some 25) #[true,true,true,true,true,true,true,true,true,true,false] rfl rfl (one_of HT_.out (by kernel_rfl)) (by decide) (fun K hK => ?_)
   refine goes_ Try.func115 (by kernel_rfl) rfl #[.pointer (some ⟨g,0,none⟩),.int .i64 s0_5,.string s0_9] (by rfl) rfl rfl (by (try simp only [List.map_toArray,List.map_cons,List.map_nil]);first | done | rfl|(simp only [List.length_drop,List.length_take];rfl)) ?_
   with_reducible refine (impl_Conn_pieces.calls k g s0_0 s0_1 s0_2 s0_3 s0_4 s0_5 s0_6 s0_7 s0_8 s0_9 true s0_5 s0_9 t575 w0 _ ?side1 ?side2 A7.out).mono ?_
   (case side1 => repeat (first|(with_reducible first|exact HI0.out|apply IsS34.alloc|apply IsS34.drewN|apply IsS34.drew|apply IsS34.set_0|apply IsS34.set_1|apply IsS34.set_2|apply IsS34.set_3|apply IsS34.set_4|apply IsS34.set_5|apply IsS34.set_6|apply IsS34.set_7|apply IsS34.set_8|apply IsS34.set_9|apply IsS34.set_10)|exact HI0.out))
   (case side2 => repeat (first|(with_reducible first|exact HB.out|apply bwA|apply bwN|apply bw1|refine below_set ?_ (IsS34.ge HI0.out))|exact HB.out))
   rintro e w10 ⟨v576,rfl,ho0,hi,hb,hk⟩
   refine ⟨_,rfl,?_⟩
   have n0_:=aMk (Kd.R_lower ho0 (keep_size (w:=w) (g:=g) (row:=none) (by repeat (first|(with_reducible first|exact HK.out|apply KeepBut.set_|apply keep_drewN|apply keep_drew|apply keep_alloc)|exact HK.out))))
   have n1_:=aMk (KeepBut.trans (by repeat (first|(with_reducible first|exact HK.out|apply KeepBut.set_|apply keep_drewN|apply keep_drew|apply keep_alloc)|exact HK.out)) hk (.inl rfl))
   have n2_:=aMk (hb)
   have n3_:=aMk (hi)
   clear HK
   clear HB
   clear HI0
   have HO577:=n0_
   have HK:=n1_
   have HB:=n2_
   have HI0:=n3_
   clear n0_ n1_ n2_ n3_
   (try clear hb)
   (try clear hb2)
   (try clear hk)
   (try clear hi)
   (try clear ho0)
   refine hK.out _ _ ⟨(cellS34_0 HI0.out.1),(cellS34_1 HI0.out.1),(cellS34_2 HI0.out.1),(cellS34_3 HI0.out.1),(cellS34_4 HI0.out.1),(cellS34_5 HI0.out.1),(cellS34_6 HI0.out.1),(cellS34_7 HI0.out.1),(cellS34_8 HI0.out.1),(cellS34_9 HI0.out.1),(cellS34_10 HI0.out.1)⟩ (fun hHeld => ?_)
   clear hK K
   refine norm_ (a':=?_) ?_ ?_
   rotate_left
   ·show Act.put _ (some 25) _ = _
    simp only [Act.put,List.setIfInBounds_toArray,List.set_cons_zero,List.set_cons_succ,i64_w,i32_w]
    rfl
   refine pure_ (i:=10) (N:=some 2) (v:=?_) (a':=?_) #[true,true,true,true,true,true,true,true,true,true,true] rfl rfl (any_of HT_.out (by kernel_rfl)) (fun _ _ _ h => h) (Or.inl ⟨by rfl,?_⟩) ?_ ?_
   rotate_left
   ·intro w'
    go_simp
    with_reducible rfl
   rotate_left
   ·simp only [Act.put,List.setIfInBounds_toArray,List.set_cons_zero,List.set_cons_succ,i64_w,i32_w]
    rfl
   refine done_ (done_of HT_.out (by kernel_rfl)) ?_
   try go_wp2
   go_ret
   exact ⟨_,by first | rfl|(simp [errW_none,errW_some] <;> rfl)|(simp [*,errW_none,errW_some] <;> rfl),by (with_reducible repeat (first|apply Kd.R_alloc|apply Kd.R_drewN|apply Kd.R_drew));exact HO577.out,by repeat (first|(with_reducible first|exact HI0.out|apply IsS34.alloc|apply IsS34.drewN|apply IsS34.drew|apply IsS34.set_0|apply IsS34.set_1|apply IsS34.set_2|apply IsS34.set_3|apply IsS34.set_4|apply IsS34.set_5|apply IsS34.set_6|apply IsS34.set_7|apply IsS34.set_8|apply IsS34.set_9|apply IsS34.set_10)|exact HI0.out),by repeat (first|(with_reducible first|exact HB.out|apply bwA|apply bwN|apply bw1|refine below_set ?_ (IsS34.ge HI0.out))|exact HB.out),by repeat (first|(with_reducible first|exact HK.out|apply KeepBut.set_|apply keep_drewN|apply keep_drew|apply keep_alloc)|exact HK.out)⟩
  ·replace c6:=Bool.eq_false_iff.mpr c6
   subst c6
   have H1 : (some ([] : List (S53))) = some r:=by rw [if_neg (show ¬ (false = true) by decide)] at H;exact H
   clear H
   have H:=H1
   clear H1
   obtain rfl:=Option.some.inj H
   obtain ⟨HGz11,hgz11⟩:=HI0.out
   have hcz11_0:=cellS34_0 HGz11
   have hcz11_1:=cellS34_1 HGz11
   have hcz11_2:=cellS34_2 HGz11
   have hcz11_3:=cellS34_3 HGz11
   have hcz11_4:=cellS34_4 HGz11
   have hcz11_5:=cellS34_5 HGz11
   have hcz11_6:=cellS34_6 HGz11
   have hcz11_7:=cellS34_7 HGz11
   have hcz11_8:=cellS34_8 HGz11
   have hcz11_9:=cellS34_9 HGz11
   have hcz11_10:=cellS34_10 HGz11
   have hfz11_0:=bFr HGz11 0
   have hfz11_1:=bFr HGz11 1
   have hfz11_2:=bFr HGz11 2
   have hfz11_3:=bFr HGz11 3
   have hfz11_4:=bFr HGz11 4
   have hfz11_5:=bFr HGz11 5
   have hfz11_6:=bFr HGz11 6
   have hfz11_7:=bFr HGz11 7
   have hfz11_8:=bFr HGz11 8
   have hfz11_9:=bFr HGz11 9
   have hfz11_10:=bFr HGz11 10
   clear HGz11 hgz11
   go_enter Try.func91,Try.ntmps91
   go_wp2
   go_ret
   exact ⟨_,by first | rfl|(simp [errW_none,errW_some] <;> rfl)|(simp [*,errW_none,errW_some] <;> rfl),by first|exact Kd.R_nil _ _ _ _ _|exact Kd.N_nil _ _ _ _ _|exact Kd.V_nil _ _ _ _ _|exact Kd.Q_nil _ _ _ _ _|exact Kd.S_nil _ _ _ _ _,by repeat (first|(with_reducible first|exact HI0.out|apply IsS34.alloc|apply IsS34.drewN|apply IsS34.drew|apply IsS34.set_0|apply IsS34.set_1|apply IsS34.set_2|apply IsS34.set_3|apply IsS34.set_4|apply IsS34.set_5|apply IsS34.set_6|apply IsS34.set_7|apply IsS34.set_8|apply IsS34.set_9|apply IsS34.set_10)|exact HI0.out),by repeat (first|(with_reducible first|exact HB.out|apply bwA|apply bwN|apply bw1|refine below_set ?_ (IsS34.ge HI0.out))|exact HB.out),by repeat (first|(with_reducible first|exact HK.out|apply KeepBut.set_|apply keep_drewN|apply keep_drew|apply keep_alloc)|exact HK.out)⟩
end
section
/-! ### impl_ConnAgain: function 42 -/
def impl_ConnAgain.f (k : Nat) (a0_0 : ByteArray) (a0_1 : Int) (a0_2 : Int) (a0_3 : Int) (a0_4 : Int) (a0_5 : Int) (a0_6 : Int) (a0_7 : Int) (a0_8 : ByteArray) (a0_9 : ByteArray) (a0_10 : Bool) : Option ((List (S53)) × Int):=(impl_ConnOK.f k a0_0 a0_1 a0_2 a0_3 a0_4 a0_5 a0_6 a0_7 a0_8 a0_9 a0_10).bind fun t579 => (if t579 = true then ((impl_Conn_again.f k a0_0 a0_1 a0_2 a0_3 a0_4 a0_5 a0_6 a0_7 a0_8 a0_9 a0_10).bind fun t580 => (some (t580,0))) else (some (([] : List (S53)),1)))
theorem impl_ConnAgain.mono : ∀ a0 a1 a2 a3 a4 a5 a6 a7 a8 a9 a10 k,LeO (impl_ConnAgain.f k a0 a1 a2 a3 a4 a5 a6 a7 a8 a9 a10) (impl_ConnAgain.f (k + 1) a0 a1 a2 a3 a4 a5 a6 a7 a8 a9 a10):=by
 intro a0 a1 a2 a3 a4 a5 a6 a7 a8 a9 a10 k
 unfold impl_ConnAgain.f
 repeat' first
   | (with_reducible exact impl_ConnOK.mono ..)
   | (with_reducible exact impl_Conn_again.mono ..)
   | (with_reducible exact LeO.refl _)
   | (with_reducible exact LeO.none _)
   | (with_reducible refine LeO.ite ?_ ?_)
   | (with_reducible refine LeO.bind ?_ (fun _ => ?_))
   | exact impl_ConnOK.mono ..
   | exact impl_Conn_again.mono ..
   | exact LeO.none _
   | refine LeO.ite ?_ ?_
   | refine LeO.bind ?_ (fun _ => ?_)
set_option maxHeartbeats 8000000 in
set_option maxRecDepth 100000 in
theorem impl_ConnAgain.calls (k : Nat) (a0_0 : ByteArray) (a0_1 : Int) (a0_2 : Int) (a0_3 : Int) (a0_4 : Int) (a0_5 : Int) (a0_6 : Int) (a0_7 : Int) (a0_8 : ByteArray) (a0_9 : ByteArray) (a0_10 : Bool) (r1 : List (S53)) (r2 : Int) (w : World) (h : impl_ConnAgain.f k a0_0 a0_1 a0_2 a0_3 a0_4 a0_5 a0_6 a0_7 a0_8 a0_9 a0_10 = some (r1,r2)) :
  Calls Try.prog 42 #[.agg #[.string a0_0,.int .i64 a0_1,.int .i64 a0_2,.int .i64 a0_3,.int .i64 a0_4,.int .i64 a0_5,.int .i64 a0_6,.int .i64 a0_7,.string a0_8,.string a0_9,.bool a0_10]] w fun e w' => ∃ v0_ : Value,e = .returned (.tuple #[v0_,.int .i64 r2]) ∧ Kd.R k53 53 w' w.heap.size (fun _ => True) v0_ r1 ∧ Below w.heap.size w w':=by
 have hu34:=Try.underlying34
 have HB:=aMk (Below.refl w.heap.size w)
 have H : ((impl_ConnOK.f k a0_0 a0_1 a0_2 a0_3 a0_4 a0_5 a0_6 a0_7 a0_8 a0_9 a0_10).bind fun t579 => (if t579 = true then ((impl_Conn_again.f k a0_0 a0_1 a0_2 a0_3 a0_4 a0_5 a0_6 a0_7 a0_8 a0_9 a0_10).bind fun t580 => (some (t580,0))) else (some (([] : List (S53)),1)))) = some (r1,r2):=h
 clear h
 replace H:=Option.bind_eq_some_iff.mp H
 obtain ⟨t579,A20,H⟩:=H
 replace H : (if t579 = true then ((impl_Conn_again.f k a0_0 a0_1 a0_2 a0_3 a0_4 a0_5 a0_6 a0_7 a0_8 a0_9 a0_10).bind fun t580 => (some (t580,0))) else (some (([] : List (S53)),1))) = some (r1,r2):=H
 have A2:=aMk A20
 clear A20
 by_cases c3 : t579 = true
 ·subst c3
  have H1 : ((impl_Conn_again.f k a0_0 a0_1 a0_2 a0_3 a0_4 a0_5 a0_6 a0_7 a0_8 a0_9 a0_10).bind fun t580 => (some (t580,0))) = some (r1,r2):=by rw [if_pos rfl] at H;exact H
  clear H
  have H:=H1
  clear H1
  replace H:=Option.bind_eq_some_iff.mp H
  obtain ⟨t580,A40,H⟩:=H
  replace H : (some (t580,0)) = some (r1,r2):=H
  have A4:=aMk A40
  clear A40
  simp only [Option.some.injEq,Prod.mk.injEq] at H
  obtain ⟨rfl,rfl⟩:=H
  go_enter Try.func42,Try.ntmps42
  go_wp2_with (first|((with_reducible refine gate_dst (N:=1) rfl ?_);refine box_event ?hg (N:=1) ?hd (cs:=#[.string a0_0,.int .i64 a0_1,.int .i64 a0_2,.int .i64 a0_3,.int .i64 a0_4,.int .i64 a0_5,.int .i64 a0_6,.int .i64 a0_7,.string a0_8,.string a0_9,.bool a0_10]) (t:=34) ?hr ?_;(case hd => rfl);(case hg => rfl);(case hr => first|(go_simp;done)|(go_simp;rfl));intro gb578 hg w5 hbox hb;have n0_:=aMk (below_step (by repeat first|exact HB.out|apply bwA|apply bwN|apply bw1) hb);have n1_:=aMk ((show IsS34 w w5 gb578 a0_0 a0_1 a0_2 a0_3 a0_4 a0_5 a0_6 a0_7 a0_8 a0_9 a0_10 from ⟨hbox,(by rw [hg];exact (below_size (by repeat first|exact HB.out|apply bwA|apply bwN|apply bw1)) : w.heap.size ≤ gb578)⟩));clear HB;have HB:=n0_;have HI578:=n1_;clear n0_ n1_;clear hb hbox hg;obtain ⟨HGz6,hgz6⟩:=HI578.out;have hcz6_0:=cellS34_0 HGz6;have hcz6_1:=cellS34_1 HGz6;have hcz6_2:=cellS34_2 HGz6;have hcz6_3:=cellS34_3 HGz6;have hcz6_4:=cellS34_4 HGz6;have hcz6_5:=cellS34_5 HGz6;have hcz6_6:=cellS34_6 HGz6;have hcz6_7:=cellS34_7 HGz6;have hcz6_8:=cellS34_8 HGz6;have hcz6_9:=cellS34_9 HGz6;have hcz6_10:=cellS34_10 HGz6;have hfz6_0:=bFr HGz6 0;have hfz6_1:=bFr HGz6 1;have hfz6_2:=bFr HGz6 2;have hfz6_3:=bFr HGz6 3;have hfz6_4:=bFr HGz6 4;have hfz6_5:=bFr HGz6 5;have hfz6_6:=bFr HGz6 6;have hfz6_7:=bFr HGz6 7;have hfz6_8:=bFr HGz6 8;have hfz6_9:=bFr HGz6 9;have hfz6_10:=bFr HGz6 10;clear HGz6 hgz6)|((with_reducible refine gate_callee (f:=25) rfl ?_);refine goesL_ (some 5) rfl rfl Try.func25 (by kernel_rfl) rfl #[.agg #[.string a0_0,.int .i64 a0_1,.int .i64 a0_2,.int .i64 a0_3,.int .i64 a0_4,.int .i64 a0_5,.int .i64 a0_6,.int .i64 a0_7,.string a0_8,.string a0_9,.bool a0_10]] rfl (by (try simp only [List.map_toArray,List.map_cons,List.map_nil]);first | done | rfl|(simp only [List.length_drop,List.length_take];rfl)) ?_;(with_reducible refine (impl_ConnOK.calls k a0_0 a0_1 a0_2 a0_3 a0_4 a0_5 a0_6 a0_7 a0_8 a0_9 a0_10 true _ A2.out).mono ?_);rintro e w7 ⟨rfl,hb⟩;refine ⟨_,rfl,?_⟩;have n0_:=aMk (IsS34.below (by repeat (first|(with_reducible first|exact HI578.out|apply IsS34.alloc|apply IsS34.drewN|apply IsS34.drew|apply IsS34.set_0|apply IsS34.set_1|apply IsS34.set_2|apply IsS34.set_3|apply IsS34.set_4|apply IsS34.set_5|apply IsS34.set_6|apply IsS34.set_7|apply IsS34.set_8|apply IsS34.set_9|apply IsS34.set_10)|exact HI578.out)) hb);have n1_:=aMk (below_step (by repeat (first|(with_reducible first|exact HB.out|apply bwA|apply bwN|apply bw1|refine below_set ?_ (IsS34.ge HI578.out))|exact HB.out)) hb);clear HI578;clear HB;have HI578:=n0_;have HB:=n1_;clear n0_ n1_;(try clear hb);(try clear hb2);(try clear hk);(try clear hi))|((with_reducible refine gate_callee (f:=91) rfl ?_);refine goesL_ (some 7) rfl rfl Try.func91 (by kernel_rfl) rfl #[.pointer (some ⟨gb578,0,none⟩)] rfl (by (try simp only [List.map_toArray,List.map_cons,List.map_nil]);first | done | rfl|(simp only [List.length_drop,List.length_take];rfl)) ?_;(with_reducible refine (impl_Conn_again.calls k gb578 a0_0 a0_1 a0_2 a0_3 a0_4 a0_5 a0_6 a0_7 a0_8 a0_9 a0_10 t580 w _ ?side1 ?side2 A4.out).mono ?_);(case side1 => repeat (first|(with_reducible first|exact HI578.out|apply IsS34.alloc|apply IsS34.drewN|apply IsS34.drew|apply IsS34.set_0|apply IsS34.set_1|apply IsS34.set_2|apply IsS34.set_3|apply IsS34.set_4|apply IsS34.set_5|apply IsS34.set_6|apply IsS34.set_7|apply IsS34.set_8|apply IsS34.set_9|apply IsS34.set_10)|exact HI578.out));(case side2 => repeat (first|(with_reducible first|exact HB.out|apply bwA|apply bwN|apply bw1|refine below_set ?_ (IsS34.ge HI578.out))|exact HB.out));rintro e w8 ⟨v581,rfl,ho0,hi,hb,hk⟩;refine ⟨_,rfl,?_⟩;have n0_:=aMk (Kd.R_lower ho0 (below_size (by repeat (first|(with_reducible first|exact HB.out|apply bwA|apply bwN|apply bw1|refine below_set ?_ (IsS34.ge HI578.out))|exact HB.out))));have n1_:=aMk (hb);have n2_:=aMk (hi);clear HB;clear HI578;have HO582:=n0_;have HB:=n1_;have HI578:=n2_;clear n0_ n1_ n2_;(try clear hb);(try clear hb2);(try clear hk);(try clear hi);(try clear ho0)))
  go_ret2
  exact ⟨_,by first | rfl|(simp [errW_none,errW_some] <;> rfl)|(simp [*,errW_none,errW_some] <;> rfl),by (with_reducible repeat (first|apply Kd.R_alloc|apply Kd.R_drewN|apply Kd.R_drew));exact HO582.out,by repeat (first|(with_reducible first|exact HB.out|apply bwA|apply bwN|apply bw1|refine below_set ?_ (IsS34.ge HI578.out))|exact HB.out)⟩
 ·replace c3:=Bool.eq_false_iff.mpr c3
  subst c3
  have H1 : (some (([] : List (S53)),1)) = some (r1,r2):=by rw [if_neg (show ¬ (false = true) by decide)] at H;exact H
  clear H
  have H:=H1
  clear H1
  simp only [Option.some.injEq,Prod.mk.injEq] at H
  obtain ⟨rfl,rfl⟩:=H
  go_enter Try.func42,Try.ntmps42
  go_wp2_with (first|((with_reducible refine gate_dst (N:=1) rfl ?_);refine box_event ?hg (N:=1) ?hd (cs:=#[.string a0_0,.int .i64 a0_1,.int .i64 a0_2,.int .i64 a0_3,.int .i64 a0_4,.int .i64 a0_5,.int .i64 a0_6,.int .i64 a0_7,.string a0_8,.string a0_9,.bool a0_10]) (t:=34) ?hr ?_;(case hd => rfl);(case hg => rfl);(case hr => first|(go_simp;done)|(go_simp;rfl));intro gb578 hg w9 hbox hb;have n0_:=aMk (below_step (by repeat first|exact HB.out|apply bwA|apply bwN|apply bw1) hb);have n1_:=aMk ((show IsS34 w w9 gb578 a0_0 a0_1 a0_2 a0_3 a0_4 a0_5 a0_6 a0_7 a0_8 a0_9 a0_10 from ⟨hbox,(by rw [hg];exact (below_size (by repeat first|exact HB.out|apply bwA|apply bwN|apply bw1)) : w.heap.size ≤ gb578)⟩));clear HB;have HB:=n0_;have HI578:=n1_;clear n0_ n1_;clear hb hbox hg;obtain ⟨HGz10,hgz10⟩:=HI578.out;have hcz10_0:=cellS34_0 HGz10;have hcz10_1:=cellS34_1 HGz10;have hcz10_2:=cellS34_2 HGz10;have hcz10_3:=cellS34_3 HGz10;have hcz10_4:=cellS34_4 HGz10;have hcz10_5:=cellS34_5 HGz10;have hcz10_6:=cellS34_6 HGz10;have hcz10_7:=cellS34_7 HGz10;have hcz10_8:=cellS34_8 HGz10;have hcz10_9:=cellS34_9 HGz10;have hcz10_10:=cellS34_10 HGz10;have hfz10_0:=bFr HGz10 0;have hfz10_1:=bFr HGz10 1;have hfz10_2:=bFr HGz10 2;have hfz10_3:=bFr HGz10 3;have hfz10_4:=bFr HGz10 4;have hfz10_5:=bFr HGz10 5;have hfz10_6:=bFr HGz10 6;have hfz10_7:=bFr HGz10 7;have hfz10_8:=bFr HGz10 8;have hfz10_9:=bFr HGz10 9;have hfz10_10:=bFr HGz10 10;clear HGz10 hgz10)|((with_reducible refine gate_callee (f:=25) rfl ?_);refine goesL_ (some 5) rfl rfl Try.func25 (by kernel_rfl) rfl #[.agg #[.string a0_0,.int .i64 a0_1,.int .i64 a0_2,.int .i64 a0_3,.int .i64 a0_4,.int .i64 a0_5,.int .i64 a0_6,.int .i64 a0_7,.string a0_8,.string a0_9,.bool a0_10]] rfl (by (try simp only [List.map_toArray,List.map_cons,List.map_nil]);first | done | rfl|(simp only [List.length_drop,List.length_take];rfl)) ?_;(with_reducible refine (impl_ConnOK.calls k a0_0 a0_1 a0_2 a0_3 a0_4 a0_5 a0_6 a0_7 a0_8 a0_9 a0_10 false _ A2.out).mono ?_);rintro e w11 ⟨rfl,hb⟩;refine ⟨_,rfl,?_⟩;have n0_:=aMk (IsS34.below (by repeat (first|(with_reducible first|exact HI578.out|apply IsS34.alloc|apply IsS34.drewN|apply IsS34.drew|apply IsS34.set_0|apply IsS34.set_1|apply IsS34.set_2|apply IsS34.set_3|apply IsS34.set_4|apply IsS34.set_5|apply IsS34.set_6|apply IsS34.set_7|apply IsS34.set_8|apply IsS34.set_9|apply IsS34.set_10)|exact HI578.out)) hb);have n1_:=aMk (below_step (by repeat (first|(with_reducible first|exact HB.out|apply bwA|apply bwN|apply bw1|refine below_set ?_ (IsS34.ge HI578.out))|exact HB.out)) hb);clear HI578;clear HB;have HI578:=n0_;have HB:=n1_;clear n0_ n1_;(try clear hb);(try clear hb2);(try clear hk);(try clear hi)))
  go_ret2
  exact ⟨_,by first | rfl|(simp [errW_none,errW_some] <;> rfl)|(simp [*,errW_none,errW_some] <;> rfl),by first|exact Kd.R_nil _ _ _ _ _|exact Kd.N_nil _ _ _ _ _|exact Kd.V_nil _ _ _ _ _|exact Kd.Q_nil _ _ _ _ _|exact Kd.S_nil _ _ _ _ _,by repeat (first|(with_reducible first|exact HB.out|apply bwA|apply bwN|apply bw1|refine below_set ?_ (IsS34.ge HI578.out))|exact HB.out)⟩
end
section
-- NEEDS spec.l01In impl.within
theorem l01In_eq (a b c : Int) : spec_l01In.f a b c = some (decide (b ≤ a ∧ a ≤ c)):=by unfold spec_l01In.f;grind
theorem within_eq (a b c : Int) : impl_within.f a b c = some (decide (b ≤ a ∧ a ≤ c)):=by unfold impl_within.f;grind
end
section
-- NEEDS spec.l01Ip impl.isAddress
theorem l01Ip_eq (a : Int) : spec_l01Ip.f a = some (decide (0 ≤ a ∧ a ≤ 4294967295)):=by simp only [spec_l01Ip.f,l01In_eq,Option.bind_some]
theorem isAddress_eq (a : Int) : impl_isAddress.f a = some (decide (0 ≤ a ∧ a ≤ 4294967295)):=by simp only [impl_isAddress.f,within_eq,Option.bind_some]
end
section
-- NEEDS spec.l02Port impl.isPort
theorem l02Port_eq (a : Int) : spec_l02Port.f a = some (decide (0 ≤ a ∧ a ≤ 65535)):=by simp only [spec_l02Port.f,l01In_eq,Option.bind_some]
theorem isPort_eq (a : Int) : impl_isPort.f a = some (decide (0 ≤ a ∧ a ≤ 65535)):=by simp only [impl_isPort.f,within_eq,Option.bind_some]
end
section
-- NEEDS spec.l10Seq impl.behind
theorem l10Seq_eq (a : Int) : spec_l10Seq.f a = some (a % 4294967296):=by simp only [spec_l10Seq.f,and32]
theorem behind_eq (a b : Int) (ha : 0 ≤ a ∧ a ≤ 4294967295) (hb : 0 ≤ b ∧ b ≤ 4294967295) : impl_behind.f a b = some ((a - b) % 4294967296):=by
 have e : wrap64 ((wrap64 (a - b)) + 4294967296) = a - b + 4294967296:=by rw [wrap_id (n:=a - b) (by omega) (by omega),wrap_id (by omega) (by omega)]
 simp only [impl_behind.f,e]
 rw [Int.tmod_eq_emod_of_nonneg (by omega)]
 congr 1
 omega
end
section
-- NEEDS impl.ConnOK spec.ConnOK
/-- What stands behind the bounds. -/
def connRest (st una nxt : Int) (inn out : ByteArray) (fin : Bool) : Bool :=
 (fin == decide (st = 3)) && ((fin || decide (out.toList = [])) && ((!decide (st = 1) || decide (inn.toList = [])) && decide ((nxt - una) % 4294967296 = (out.size : Int) + (if fin = true then 1 else 0) + (if st = 1 then 1 else 0))))
def connOKb (mac : ByteArray) (ip port dst st una nxt want : Int) (inn out : ByteArray) (fin : Bool) : Bool :=
 decide ((mac.size : Int) = 6) && (decide (0 ≤ ip ∧ ip ≤ 4294967295) && (decide (0 ≤ port ∧ port ≤ 65535) && (decide (0 ≤ dst ∧ dst ≤ 4294967295) && (decide (1 ≤ st ∧ st ≤ 4) && (decide (0 ≤ una ∧ una ≤ 4294967295) && (decide (0 ≤ nxt ∧ nxt ≤ 4294967295) && (decide (0 ≤ want ∧ want ≤ 4294967295) &&
  (decide ((inn.size : Int) ≤ 300) && (decide ((out.size : Int) ≤ 300) && connRest st una nxt inn out fin)))))))))
theorem impl_ConnOK_j2 (k : Nat) (x : Bool) (mac : ByteArray) (ip port dst st una nxt want : Int) (inn out : ByteArray) (fin : Bool) (hu : 0 ≤ una ∧ una ≤ 4294967295) (hn : 0 ≤ nxt ∧ nxt ≤ 4294967295) (ho : (out.size : Int) ≤ 300) :
  impl_ConnOK.j2 (k + 1) x mac ip port dst st una nxt want inn out fin = some (!x && decide ((nxt - una) % 4294967296 = (out.size : Int) + (if fin = true then 1 else 0) + (if st = 1 then 1 else 0))):=by
 simp only [impl_ConnOK.j2,impl_oneIf.f,behind_eq nxt una hn hu,Option.bind_some]
 cases x
 ·rw [if_neg (by decide)]
  cases fin <;> by_cases h1 : st = 1 <;> simp only [h1,Bool.false_eq_true,if_true,if_false,Option.bind_some,beq_iff_eq,beq_self_eq_true] <;> rw [wrap_id (n:=wrap64 ((out.size : Int) + _) + _) (by rw [wrap_id (by omega) (by omega)];omega) (by rw [wrap_id (by omega) (by omega)];omega),wrap_id (by omega) (by omega)] <;> rfl
 ·rfl
theorem impl_ConnOK_j1 (k : Nat) (x : Bool) (mac : ByteArray) (ip port dst st una nxt want : Int) (inn out : ByteArray) (fin : Bool) (hu : 0 ≤ una ∧ una ≤ 4294967295) (hn : 0 ≤ nxt ∧ nxt ≤ 4294967295) (ho : (out.size : Int) ≤ 300) :
  impl_ConnOK.j1 (k + 2) x mac ip port dst st una nxt want inn out fin = some (!x && connRest st una nxt inn out fin):=by
 simp only [impl_ConnOK.j1,impl_ConnOK_j2 k _ mac ip port dst st una nxt want inn out fin hu hn ho,connRest]
 cases x
 ·cases fin <;> by_cases h1 : st = 1 <;> by_cases h3 : st = 3 <;> by_cases ho : out.toList = [] <;> by_cases hi : inn.toList = [] <;> simp [h1,h3,ho,hi]
  all_goals omega
 ·rfl
theorem gt_le_b (n : Int) (m : Int) : decide (n > m) = !decide (n ≤ m):=by by_cases h : n ≤ m <;> simp [h];omega
theorem impl_ConnOK_j0 (k : Nat) (x : Bool) (mac : ByteArray) (ip port dst st una nxt want : Int) (inn out : ByteArray) (fin : Bool) :
  impl_ConnOK.j0 (k + 3) x mac ip port dst st una nxt want inn out fin = some (!x && (decide (0 ≤ una ∧ una ≤ 4294967295) && (decide (0 ≤ nxt ∧ nxt ≤ 4294967295) && (decide (0 ≤ want ∧ want ≤ 4294967295) && (decide ((inn.size : Int) ≤ 300) && (decide ((out.size : Int) ≤ 300) && connRest st una nxt inn out fin)))))):=by
 have hj:=fun y => impl_ConnOK_j1 k y mac ip port dst st una nxt want inn out fin
 have ht : impl_ConnOK.j1 (k + 2) true mac ip port dst st una nxt want inn out fin = some false:=by simp [impl_ConnOK.j1]
 simp only [impl_ConnOK.j0,isAddress_eq,Option.bind_some,gt_le_b]
 by_cases hi : (inn.size : Int) ≤ 300
 ·rw [if_neg (show ¬ (inn.size : Int) > 300 by omega),decide_eq_true hi]
  by_cases ho : (out.size : Int) ≤ 300
  ·rw [decide_eq_true ho]
   by_cases hu : 0 ≤ una ∧ una ≤ 4294967295
   ·by_cases hn : 0 ≤ nxt ∧ nxt ≤ 4294967295
    ·rw [decide_eq_true hu,decide_eq_true hn,ht,hj _ hu hn ho]
     generalize decide (0 ≤ want ∧ want ≤ 4294967295) = q
     cases x <;> cases q <;> simp
    ·rw [decide_eq_true hu,decide_eq_false hn,ht]
     cases x <;> simp
   ·rw [decide_eq_false hu,ht]
    cases x <;> simp
  ·rw [decide_eq_false ho,Bool.not_false,ht]
   generalize decide (0 ≤ want ∧ want ≤ 4294967295) = q
   generalize decide (0 ≤ una ∧ una ≤ 4294967295) = q1
   generalize decide (0 ≤ nxt ∧ nxt ≤ 4294967295) = q2
   cases x <;> cases q <;> cases q1 <;> cases q2 <;> simp
 ·rw [if_pos (show (inn.size : Int) > 300 by omega),decide_eq_false hi,ht]
  generalize decide (0 ≤ want ∧ want ≤ 4294967295) = q
  generalize decide (0 ≤ una ∧ una ≤ 4294967295) = q1
  generalize decide (0 ≤ nxt ∧ nxt ≤ 4294967295) = q2
  cases x <;> cases q <;> cases q1 <;> cases q2 <;> simp
theorem impl_ConnOK_eq (k : Nat) (mac : ByteArray) (ip port dst st una nxt want : Int) (inn out : ByteArray) (fin : Bool) :
  impl_ConnOK.f (k + 3) mac ip port dst st una nxt want inn out fin = some (connOKb mac ip port dst st una nxt want inn out fin):=by
 have e : ((mac.size : Int) == 6) = decide ((mac.size : Int) = 6):=rfl
 simp only [impl_ConnOK.f,impl_ConnOK_j0,impl_macOK.f,isAddress_eq,isPort_eq,within_eq,Option.bind_some,connOKb,e]
 generalize decide ((mac.size : Int) = 6) = p1
 generalize decide (0 ≤ ip ∧ ip ≤ 4294967295) = p2
 generalize decide (0 ≤ port ∧ port ≤ 65535) = p3
 generalize decide (0 ≤ dst ∧ dst ≤ 4294967295) = p4
 cases p1 <;> cases p2 <;> cases p3 <;> cases p4 <;> simp
theorem spec_ConnOK_j1 (k : Nat) (x : Bool) (mac : ByteArray) (ip port dst st una nxt want : Int) (inn out : ByteArray) (fin : Bool) (hu : 0 ≤ una ∧ una ≤ 4294967295) (hn : 0 ≤ nxt ∧ nxt ≤ 4294967295) (ho : (out.size : Int) ≤ 300) :
  spec_ConnOK.j1 (k + 1) x mac ip port dst st una nxt want inn out fin = some (!x && decide ((nxt - una) % 4294967296 = (out.size : Int) + (if fin = true then 1 else 0) + (if st = 1 then 1 else 0))):=by
 simp only [spec_ConnOK.j1,spec_l10Sent.f,spec_l01Bit.f,l10Seq_eq,Option.bind_some]
 rw [wrap_id (n:=nxt - una) (by omega) (by omega)]
 cases x
 ·rw [if_neg (by decide)]
  cases fin <;> by_cases h1 : st = 1 <;> simp only [h1,Bool.false_eq_true,if_true,if_false,Option.bind_some,beq_iff_eq,beq_self_eq_true] <;> rw [wrap_id (n:=wrap64 ((out.size : Int) + _) + _) (by rw [wrap_id (by omega) (by omega)];omega) (by rw [wrap_id (by omega) (by omega)];omega),wrap_id (by omega) (by omega)] <;> rfl
 ·rfl
theorem spec_ConnOK_j0 (k : Nat) (x : Bool) (mac : ByteArray) (ip port dst st una nxt want : Int) (inn out : ByteArray) (fin : Bool) (hu : 0 ≤ una ∧ una ≤ 4294967295) (hn : 0 ≤ nxt ∧ nxt ≤ 4294967295) (ho : (out.size : Int) ≤ 300) :
  spec_ConnOK.j0 (k + 2) x mac ip port dst st una nxt want inn out fin = some (!x && connRest st una nxt inn out fin):=by
 simp only [spec_ConnOK.j0,spec_ConnOK_j1 k _ mac ip port dst st una nxt want inn out fin hu hn ho,connRest]
 cases x
 ·cases fin <;> by_cases h1 : st = 1 <;> by_cases h3 : st = 3 <;> by_cases ho : out.toList = [] <;> by_cases hi : inn.toList = [] <;> simp [h1,h3,ho,hi]
  all_goals omega
 ·rfl
theorem spec_ConnOK_eq (k : Nat) (mac : ByteArray) (ip port dst st una nxt want : Int) (inn out : ByteArray) (fin : Bool) :
  spec_ConnOK.f (k + 2) mac ip port dst st una nxt want inn out fin = some (connOKb mac ip port dst st una nxt want inn out fin):=by
 have e : ((mac.size : Int) == 6) = decide ((mac.size : Int) = 6):=rfl
 have hj:=fun y => spec_ConnOK_j0 k y mac ip port dst st una nxt want inn out fin
 have ht : spec_ConnOK.j0 (k + 2) true mac ip port dst st una nxt want inn out fin = some false:=by simp [spec_ConnOK.j0]
 simp only [spec_ConnOK.f,spec_l01Mac.f,spec_l07Ask.f,l01Ip_eq,l02Port_eq,l01In_eq,Option.bind_some,connOKb,e,ht,gt_le_b]
 generalize decide ((mac.size : Int) = 6) = p1
 generalize decide (0 ≤ ip ∧ ip ≤ 4294967295) = p2
 generalize decide (0 ≤ port ∧ port ≤ 65535) = p3
 generalize decide (0 ≤ dst ∧ dst ≤ 4294967295) = p4
 generalize decide (1 ≤ st ∧ st ≤ 4) = p5
 generalize decide (0 ≤ want ∧ want ≤ 4294967295) = p6
 by_cases hi : (inn.size : Int) ≤ 300
 ·rw [if_neg (show ¬ (inn.size : Int) > 300 by omega),decide_eq_true hi]
  by_cases hu : 0 ≤ una ∧ una ≤ 4294967295
  ·by_cases hn : 0 ≤ nxt ∧ nxt ≤ 4294967295
   ·by_cases ho : (out.size : Int) ≤ 300
    ·rw [decide_eq_true hu,decide_eq_true hn,decide_eq_true ho,hj _ hu hn ho]
     cases p1 <;> cases p2 <;> cases p3 <;> cases p4 <;> cases p5 <;> cases p6 <;> simp
    ·rw [decide_eq_true hu,decide_eq_true hn,decide_eq_false ho,Bool.not_false,ht]
     cases p1 <;> cases p2 <;> cases p3 <;> cases p4 <;> cases p5 <;> cases p6 <;> simp
   ·rw [decide_eq_true hu,decide_eq_false hn]
    cases p1 <;> cases p2 <;> cases p3 <;> cases p4 <;> cases p5 <;> simp
  ·rw [decide_eq_false hu]
   cases p1 <;> cases p2 <;> cases p3 <;> cases p4 <;> cases p5 <;> simp
 ·rw [if_pos (show (inn.size : Int) > 300 by omega),decide_eq_false hi]
  generalize decide (0 ≤ una ∧ una ≤ 4294967295) = p7
  generalize decide (0 ≤ nxt ∧ nxt ≤ 4294967295) = p8
  cases p1 <;> cases p2 <;> cases p3 <;> cases p4 <;> cases p5 <;> cases p6 <;> cases p7 <;> cases p8 <;> simp
end
section
-- NEEDS impl.onward
theorem onward_eq (a n : Int) (ha : 0 ≤ a ∧ a ≤ 4294967295) (hn : 0 ≤ n ∧ n ≤ 4294967295) : impl_onward.f a n = some ((a + n) % 4294967296):=by
 simp only [impl_onward.f]
 rw [wrap_id (by omega) (by omega),Int.tmod_eq_emod_of_nonneg (by omega)]
end
section
-- NEEDS impl.ConnSay spec.ConnSay spec.l10Pieces
theorem pieces_same (c0 : ByteArray) (c1 c2 c3 c4 c5 c6 c7 : Int) (c8 c9 : ByteArray) (c10 : Bool) : ∀ (d : Nat) (from_ : Int) (t : ByteArray) (acc : List S53),t.size ≤ d → 0 ≤ from_ → from_ ≤ 4294967295 → acc.length + d ≤ 1000000 →
  ∃ r : List S53,r.length ≤ acc.length + d + 1 ∧ Ev (fun k => impl_Conn_pieces.l0 k from_ t acc c0 c1 c2 c3 c4 c5 c6 c7 c8 c9 c10) r ∧ Ev (fun k => spec_l10Pieces.l0 k from_ t true acc c0 c1 c2 c3 c4 c5 c6 c7 c8 c9 c10) r:=by
 intro d
 induction d with
 | zero =>
  intro from_ t acc ht h0 h1 ha
  have hz : t.size = 0:=by omega
  refine ⟨acc ++ [⟨80,c2,from_,c7,17,1000,(⟨#[]⟩ : ByteArray)⟩],?_,⟨1,fun k hk => ?_⟩,⟨1,fun k hk => ?_⟩⟩
  rotate_left
  ·obtain ⟨k,rfl⟩ : ∃ q,k = q + 1:=⟨k - 1,by omega⟩
   simp only [impl_Conn_pieces.l0]
   rw [if_pos ((toList_nil_iff t).2 hz)]
   simp only [impl_Conn_tell.f,Option.bind_some]
   rw [if_pos (by omega)]
  ·obtain ⟨k,rfl⟩ : ∃ q,k = q + 1:=⟨k - 1,by omega⟩
   simp only [spec_l10Pieces.l0]
   rw [if_neg (by omega)]
   simp only [spec_l10Reply.f,Option.bind_some,if_true]
   rw [if_pos (by omega)]
  ·simp
 | succ d ih =>
  intro from_ t acc ht h0 h1 ha
  by_cases hz : t.size = 0
  ·refine ⟨acc ++ [⟨80,c2,from_,c7,17,1000,(⟨#[]⟩ : ByteArray)⟩],?_,⟨1,fun k hk => ?_⟩,⟨1,fun k hk => ?_⟩⟩
   rotate_left
   ·obtain ⟨k,rfl⟩ : ∃ q,k = q + 1:=⟨k - 1,by omega⟩
    simp only [impl_Conn_pieces.l0]
    rw [if_pos ((toList_nil_iff t).2 hz)]
    simp only [impl_Conn_tell.f,Option.bind_some]
    rw [if_pos (by omega)]
   ·obtain ⟨k,rfl⟩ : ∃ q,k = q + 1:=⟨k - 1,by omega⟩
    simp only [spec_l10Pieces.l0]
    rw [if_neg (by omega)]
    simp only [spec_l10Reply.f,Option.bind_some,if_true]
    rw [if_pos (by omega)]
   ·simp
  ·obtain ⟨n,hn⟩ : ∃ n : Int,mn (t.size : Int) 200 = n:=⟨_,rfl⟩
   have hn1 : 1 ≤ n ∧ n ≤ 200 ∧ n ≤ (t.size : Int):=by
    rw [← hn]
    unfold mn
    split <;> omega
   have hsz : (t.extract n.toNat t.size).size ≤ d:=by rw [size_extract_le t n.toNat t.size (Nat.le_refl _)];omega
   obtain ⟨r,hr,he1,he2⟩:=ih ((from_ + n) % 4294967296) (t.extract n.toNat t.size) (acc ++ [⟨80,c2,from_,c7,24,1000,t.extract 0 n.toNat⟩]) hsz (by omega) (by omega) (by simp;omega)
   refine ⟨r,by simp at hr;omega,Ev.step (fun k => ?_) he1,Ev.step (fun k => ?_) he2⟩
   ·simp only [impl_Conn_pieces.l0,hn]
    rw [if_neg (by rw [toList_nil_iff];exact hz),if_pos (by omega),if_pos hn1.2.2]
    simp only [impl_Conn_tell.f,Option.bind_some]
    rw [if_pos (by omega),onward_eq from_ n ⟨h0,h1⟩ (by omega)]
    simp only [Option.bind_some]
   ·have w : wrap64 (from_ + n) = from_ + n:=wrap_id (by omega) (by omega)
    simp only [spec_l10Pieces.l0,hn]
    rw [if_pos (by omega),if_pos (by omega),if_pos hn1.2.2]
    simp only [spec_l10Reply.f,Option.bind_some]
    rw [if_pos (by omega)]
    simp only [w,l10Seq_eq,Option.bind_some]
end
section
-- NEEDS impl.ConnAgain spec.ConnAgain impl.ConnSay
theorem connOKb_facts {m : ByteArray} {ip port dst st una nxt want : Int} {inn out : ByteArray} {fin : Bool} (h : connOKb m ip port dst st una nxt want inn out fin = true) :
  (1 ≤ st ∧ st ≤ 4) ∧ (0 ≤ una ∧ una ≤ 4294967295) ∧ (0 ≤ nxt ∧ nxt ≤ 4294967295) ∧ (0 ≤ want ∧ want ≤ 4294967295) ∧ (inn.size : Int) ≤ 300 ∧ (out.size : Int) ≤ 300 ∧ (fin = true ↔ st = 3) ∧ (fin = false → out.size = 0) ∧ (st = 1 → inn.size = 0) ∧
  (nxt - una) % 4294967296 = (out.size : Int) + (if fin = true then 1 else 0) + (if st = 1 then 1 else 0):=by
 simp only [connOKb,connRest,Bool.and_eq_true,decide_eq_true_eq,beq_iff_eq,Bool.or_eq_true,Bool.not_eq_true',decide_eq_false_iff_not,toList_nil_iff] at h
 obtain ⟨_,_,_,_,h5,h6,h7,h8,h9,h10,h11,h12,h13,h14⟩:=h
 refine ⟨h5,h6,h7,h8,h9,h10,?_,?_,?_,h14⟩
 ·rw [h11,decide_eq_true_eq]
 ·intro hf
  rcases h12 with h12 | h12
  ·rw [h12] at hf;cases hf
  ·exact h12
 ·intro hs
  rcases h13 with h13 | h13
  ·exact absurd hs h13
  ·exact h13
end
section
-- NEEDS impl.ConnSay spec.ConnSay impl.ConnAgain
set_option maxHeartbeats 4000000 in
theorem ConnSay_same (m : ByteArray) (ip port dst st una nxt want : Int) (inn out : ByteArray) (fin : Bool) (t : ByteArray) :
  ∃ (c0 : ByteArray) (c1 c2 c3 c4 c5 c6 c7 : Int) (c8 c9 : ByteArray) (c10 : Bool) (l : List S53) (code : Int),l.length ≤ 400 ∧ Ev (fun k => impl_ConnSay.f k m ip port dst st una nxt want inn out fin t) (c0,c1,c2,c3,c4,c5,c6,c7,c8,c9,c10,l,code) ∧ Ev (fun k => spec_ConnSay.f k m ip port dst st una nxt want inn out fin t) (c0,c1,c2,c3,c4,c5,c6,c7,c8,c9,c10,l,code):=by
 have ei : Ev (fun k => impl_ConnOK.f k m ip port dst st una nxt want inn out fin) (connOKb m ip port dst st una nxt want inn out fin):=⟨3,fun k hk => by
  obtain ⟨k,rfl⟩ : ∃ q,k = q + 3:=⟨k - 3,by omega⟩
  exact impl_ConnOK_eq k m ip port dst st una nxt want inn out fin⟩
 have es : Ev (fun k => spec_ConnOK.f k m ip port dst st una nxt want inn out fin) (connOKb m ip port dst st una nxt want inn out fin):=⟨2,fun k hk => by
  obtain ⟨k,rfl⟩ : ∃ q,k = q + 2:=⟨k - 2,by omega⟩
  exact spec_ConnOK_eq k m ip port dst st una nxt want inn out fin⟩
 by_cases hbig : (t.size : Int) > 65536
 ·refine ⟨⟨#[]⟩,0,0,0,0,0,0,0,⟨#[]⟩,⟨#[]⟩,false,[],2,by simp,⟨0,fun k _ => ?_⟩,⟨0,fun k _ => ?_⟩⟩
  ·simp only [impl_ConnSay.f]
   rw [if_pos hbig]
  ·simp only [spec_ConnSay.f]
   rw [if_pos hbig]
 cases hok : connOKb m ip port dst st una nxt want inn out fin
 ·rw [hok] at ei es
  obtain ⟨K1,h1⟩:=ei
  obtain ⟨K2,h2⟩:=es
  refine ⟨⟨#[]⟩,0,0,0,0,0,0,0,⟨#[]⟩,⟨#[]⟩,false,[],1,by simp,⟨K1,fun k hk => ?_⟩,⟨K2,fun k hk => ?_⟩⟩
  ·have e:=h1 k hk
   dsimp only at e
   simp only [impl_ConnSay.f]
   rw [if_neg hbig,e]
   rfl
  ·have e:=h2 k hk
   dsimp only at e
   simp only [spec_ConnSay.f]
   rw [if_neg hbig,e]
   rfl
 rw [hok] at ei es
 obtain ⟨K1,h1⟩:=ei
 obtain ⟨K2,h2⟩:=es
 obtain ⟨h5,h6,h7,h8,h9,h10,hf,ho,hin,hlast⟩:=connOKb_facts hok
 by_cases hs : st = 2
 ·have hfin : fin = false:=by
   cases fin
   ·rfl
   ·have:=hf.1 rfl
    omega
  have hoz:=ho hfin
  have hoe:=eq_empty hoz
  clear hlast hin hf ho h5 h6 h8 h9 h10
  have w0 : wrap64 ((out.size : Int) + (t.size : Int)) = (t.size : Int):=by rw [hoz,wrap_id (by omega) (by omega)];omega
  by_cases hl : (t.size : Int) > 300
  ·refine ⟨m,ip,port,dst,st,una,nxt,want,inn,out,fin,[],7,by simp,⟨K1,fun k hk => ?_⟩,⟨K2,fun k hk => ?_⟩⟩
   ·have e:=h1 k hk
    dsimp only at e
    simp only [impl_ConnSay.f,impl_Conn_say.f]
    rw [if_neg hbig,e]
    simp only [Option.bind_some,if_true]
    rw [if_pos hs,if_pos hl]
    rfl
   ·have e:=h2 k hk
    dsimp only at e
    simp only [spec_ConnSay.f]
    rw [if_neg hbig,e]
    simp only [Option.bind_some,if_true]
    rw [if_pos hs,w0,if_pos hl]
  ·obtain ⟨r,hr,⟨K3,e1⟩,⟨K4,e2⟩⟩:=pieces_same m ip port dst st una nxt want inn out fin t.size nxt t [] (Nat.le_refl _) h7.1 h7.2 (by simp;omega)
   have hr' : r.length ≤ 400:=by simp at hr;omega
   have w1 : wrap64 ((t.size : Int) + 1) = (t.size : Int) + 1:=wrap_id (by omega) (by omega)
   have w2 : wrap64 (wrap64 (nxt + (t.size : Int)) + 1) = nxt + ((t.size : Int) + 1):=by rw [wrap_id (n:=nxt + (t.size : Int)) (by omega) (by omega),wrap_id (by omega) (by omega)];omega
   refine ⟨m,ip,port,dst,3,una,(nxt + ((t.size : Int) + 1)) % 4294967296,want,inn,t,true,r,0,hr',⟨K1 + K3,fun k hk => ?_⟩,⟨K2 + K4,fun k hk => ?_⟩⟩
   ·have e:=h1 k (by omega)
    dsimp only at e
    have e3:=e1 k (by omega)
    simp only [impl_ConnSay.f,impl_Conn_say.f,impl_Conn_pieces.f]
    rw [if_neg hbig,e]
    simp only [Option.bind_some,if_true]
    rw [if_pos hs,if_neg hl]
    simp only [e3,Option.bind_some,w1,onward_eq nxt ((t.size : Int) + 1) h7 (by omega)]
   ·have e:=h2 k (by omega)
    dsimp only at e
    have e3:=e2 k (by omega)
    simp only [spec_ConnSay.f,spec_l10Say.f,spec_l10Pieces.f]
    rw [if_neg hbig,e]
    simp only [Option.bind_some,if_true]
    rw [if_pos hs,w0,if_neg hl]
    simp only [e3,Option.bind_some]
    rw [if_pos (by omega)]
    simp only [w2,l10Seq_eq,Option.bind_some]
    rw [hoe,empty_app]
 ·refine ⟨m,ip,port,dst,st,una,nxt,want,inn,out,fin,[],12,by simp,⟨K1,fun k hk => ?_⟩,⟨K2,fun k hk => ?_⟩⟩
  ·have e:=h1 k hk
   dsimp only at e
   simp only [impl_ConnSay.f,impl_Conn_say.f]
   rw [if_neg hbig,e]
   simp only [Option.bind_some,if_true]
   rw [if_neg hs]
   rfl
  ·have e:=h2 k hk
   dsimp only at e
   simp only [spec_ConnSay.f]
   rw [if_neg hbig,e]
   simp only [Option.bind_some,if_true]
   rw [if_neg hs]
end
section
-- NEEDS laws.eqConn
theorem eqConn_refl (a : ByteArray) (b c d e f g h : Int) (i j : ByteArray) (l : Bool) : laws_eqConn.f a b c d e f g h i j l a b c d e f g h i j l = some true:=by
 unfold laws_eqConn.f
 repeat' (first|rw [if_pos rfl] | rfl | rw [if_neg (by simp)])
end
section
theorem eq_T53_refl (x : S53) : laws_eqSegment.f (x.f0) (x.f1) (x.f2) (x.f3) (x.f4) (x.f5) (x.f6) (x.f0) (x.f1) (x.f2) (x.f3) (x.f4) (x.f5) (x.f6) = some true:=by
 unfold laws_eqSegment.f
 repeat' (first|rw [if_pos rfl] | rfl | rw [if_neg (by simp)])
 all_goals simp
theorem eqS_T53_l0 (xs : List S53) : ∀ (d : Nat) (i : Int),0 ≤ i → (xs.length : Int) - i = d → (xs.length : Int) ≤ 1152921504606846976 → Ev (fun k => laws_eqSegmentS.l0 k xs xs i) true:=by
 intro d
 induction d with
 | zero =>
  intro i h0 hd hx
  refine ⟨1,fun k hk => ?_⟩
  obtain ⟨k,rfl⟩ : ∃ q,k = q + 1:=⟨k - 1,by omega⟩
  simp only [laws_eqSegmentS.l0]
  rw [if_neg (by omega)]
 | succ d ih =>
  intro i h0 hd hx
  have hlt : i < (xs.length : Int):=by omega
  have ei : wrap64 (i + 1) = i + 1:=wrap_id (by omega) (by omega)
  refine Ev.step (f:=fun k => laws_eqSegmentS.l0 k xs xs (i + 1)) (fun k => ?_) (ih (i + 1) (by omega) (by omega) hx)
  simp only [laws_eqSegmentS.l0,ei]
  rw [if_pos hlt,if_pos h0,if_pos hlt]
  simp only [eq_T53_refl,Option.bind_some,if_true]
theorem eqS_T53_ev (xs : List S53) (hx : (xs.length : Int) ≤ 1152921504606846976) : Ev (fun k => laws_eqSegmentS.f k xs xs) true:=by
 refine Ev.congr (f:=fun k => laws_eqSegmentS.l0 k xs xs 0) (fun k => ?_) (eqS_T53_l0 xs xs.length 0 (by omega) (by omega) hx)
 simp only [laws_eqSegmentS.f,if_true]
end
section
theorem markText_l0 : ∀ (d : Nat) (n : Int) (s : ByteArray),0 ≤ n → n.toNat ≤ d → s.size + n.toNat ≤ 4611686018427387904 → ∃ t,laws_markText.l0 (d + 1) n s = some t:=by
 intro d
 induction d with
 | zero =>
  intro n s h0 hd hs
  have e : n = 0:=by omega
  subst e
  simp only [laws_markText.l0]
  rw [if_neg (by omega),if_pos (by omega)]
  exact ⟨_,rfl⟩
 | succ d ih =>
  intro n s h0 hd hs
  by_cases hn : n > 0
  ·unfold laws_markText.l0
   rw [if_pos hn]
   simp only [Option.bind_some]
   have hz : (strOfNums [wrap64 (48 + Int.tmod n 10) % 256]).size = 1:=rfl
   rw [if_pos (by rw [hz];omega)]
   have hq : wrap64 (Int.tdiv n 10) = n / 10:=by
    rw [Int.tdiv_eq_ediv_of_nonneg h0]
    exact wrap_id (by omega) (by omega)
   rw [hq]
   refine ih (n / 10) _ (by omega) (by omega) ?_
   rw [ByteArray.size_append,hz]
   omega
  ·unfold laws_markText.l0
   rw [if_neg hn,if_pos (by omega)]
   exact ⟨_,rfl⟩
theorem markText_ev (n : Int) (h : n ≤ 2305843009213693952) : ∃ t,Ev (fun k => laws_markText.f k n) t:=by
 by_cases h0 : n ≤ 0
 ·exact ⟨_,0,fun k _ => by simp only [laws_markText.f];rw [if_pos h0]⟩
 ·obtain ⟨t,ht⟩:=markText_l0 n.toNat n ⟨#[]⟩ (by omega) (Nat.le_refl _) (by show 0 + _ ≤ _;omega)
  refine ⟨t,Ev.of (laws_markText.mono n) (k:=n.toNat + 1) ?_⟩
  simp only [laws_markText.f]
  rw [if_neg h0]
  exact ht
/-- The text that marks a number. -/
noncomputable def mtx (n : Int) : ByteArray:=@Classical.epsilon ByteArray ⟨⟨#[]⟩⟩ (fun t => Ev (fun k => laws_markText.f k n) t)
theorem mtx_ev (n : Int) (h : n ≤ 2305843009213693952) : Ev (fun k => laws_markText.f k n) (mtx n):=Classical.epsilon_spec (p:=fun t => Ev (fun k => laws_markText.f k n) t) (markText_ev n h)
end
section
theorem rdset_T53 {xs : List S53} {i : Int} (h : i.toNat < xs.length) (v : S53) : rd_T53 (xs.set i.toNat v) i = v:=by
 unfold rd_T53
 rw [List.getD_eq_getElem?_getD,List.getElem?_set_self h]
 rfl
theorem rdset_ne_T53 {xs : List S53} {i j : Int} (h0 : 0 ≤ i) (h1 : 0 ≤ j) (h : i ≠ j) (v : S53) : rd_T53 (xs.set i.toNat v) j = rd_T53 xs j:=by
 unfold rd_T53
 rw [List.getD_eq_getElem?_getD,List.getElem?_set_ne (by omega),← List.getD_eq_getElem?_getD]
end
section
noncomputable def mk_T53 (n : Int) : S53:=(⟨n,n + 1,n + 1 + 1,n + 1 + 1 + 1,n + 1 + 1 + 1 + 1,n + 1 + 1 + 1 + 1 + 1,mtx (n + 1 + 1 + 1 + 1 + 1 + 1)⟩ : S53)
set_option maxHeartbeats 2000000 in
theorem mark_T53_l0 : ∀ (d : Nat) (xs : List S53) (m i : Int),0 ≤ i → (xs.length : Int) - i = d → 0 ≤ m → m + 7 * d ≤ 1152921504606846976 → (xs.length : Int) ≤ 1152921504606846976 →
  ∃ ys : List S53,Ev (fun k => laws_markSegmentS.l0 k xs m i) (m + 7 * d,ys) ∧ ys.length = xs.length ∧ (∀ j : Int,0 ≤ j → j < i → rd_T53 ys j = rd_T53 xs j) ∧ (∀ j : Int,i ≤ j → j < xs.length → rd_T53 ys j = mk_T53 (m + 7 * (j - i))):=by
 intro d
 induction d with
 | zero =>
  intro xs m i h0 hd hm hb hx
  refine ⟨xs,⟨1,fun k hk => ?_⟩,rfl,fun _ _ _ => rfl,fun j h1 h2 => by omega⟩
  obtain ⟨k,rfl⟩ : ∃ q,k = q + 1:=⟨k - 1,by omega⟩
  simp only [laws_markSegmentS.l0]
  rw [if_neg (by omega)]
  simp
 | succ d ih =>
  intro xs m i h0 hd hm hb hx
  have hlt : i < (xs.length : Int):=by omega
  have hn : i.toNat < xs.length:=by omega
  have e0 : wrap64 (m + 1) = m + 1:=wrap_id (by omega) (by omega)
  have e1 : wrap64 (m + 1 + 1) = m + 1 + 1:=wrap_id (by omega) (by omega)
  have e2 : wrap64 (m + 1 + 1 + 1) = m + 1 + 1 + 1:=wrap_id (by omega) (by omega)
  have e3 : wrap64 (m + 1 + 1 + 1 + 1) = m + 1 + 1 + 1 + 1:=wrap_id (by omega) (by omega)
  have e4 : wrap64 (m + 1 + 1 + 1 + 1 + 1) = m + 1 + 1 + 1 + 1 + 1:=wrap_id (by omega) (by omega)
  have e5 : wrap64 (m + 1 + 1 + 1 + 1 + 1 + 1) = m + 1 + 1 + 1 + 1 + 1 + 1:=wrap_id (by omega) (by omega)
  have e6 : wrap64 (m + 1 + 1 + 1 + 1 + 1 + 1 + 1) = m + 1 + 1 + 1 + 1 + 1 + 1 + 1:=wrap_id (by omega) (by omega)
  have ei : wrap64 (i + 1) = i + 1:=wrap_id (by omega) (by omega)
  have hl : (xs.set i.toNat (mk_T53 m)).length = xs.length:=List.length_set
  obtain ⟨ys,hev,hlen,hold,hnew⟩:=ih (xs.set i.toNat (mk_T53 m)) (m + 1 + 1 + 1 + 1 + 1 + 1 + 1) (i + 1) (by omega) (by rw [hl];omega) (by omega) (by omega) (by rw [hl];omega)
  rw [hl] at hlen hnew
  refine ⟨ys,?_,hlen,fun j h1 h2 => ?_,fun j h1 h2 => ?_⟩
  ·have hr : m + 7 * ((d + 1 : Nat) : Int) = m + 1 + 1 + 1 + 1 + 1 + 1 + 1 + 7 * (d : Int):=by omega
   rw [hr]
   refine Ev.step (f:=fun k => (laws_markText.f k (m + 1 + 1 + 1 + 1 + 1 + 1)).bind fun t6 => laws_markSegmentS.l0 k (xs.set i.toNat (⟨m,m + 1,m + 1 + 1,m + 1 + 1 + 1,m + 1 + 1 + 1 + 1,m + 1 + 1 + 1 + 1 + 1,t6⟩ : S53)) (m + 1 + 1 + 1 + 1 + 1 + 1 + 1) (i + 1)) (fun k => ?_) ?_
   ·simp only [laws_markSegmentS.l0]
    rw [if_pos hlt,if_pos h0]
    simp only [Option.bind_some,List.set_set,rdset_T53 hn,e0,e1,e2,e3,e4,e5,e6,ei]
   ·exact Ev.bind (mtx_ev (m + 1 + 1 + 1 + 1 + 1 + 1) (by omega)) (hev)
  ·rw [hold j h1 (by omega),rdset_ne_T53 h0 h1 (by omega)]
  ·by_cases hji : j = i
   ·subst hji
    rw [hold j h0 (by omega),rdset_T53 hn]
    congr 1
    omega
   ·rw [hnew j (by omega) h2]
    congr 1
    omega
theorem mark_T53_ev (xs : List S53) (m : Int) (hm : 0 ≤ m) (hb : m + 7 * xs.length ≤ 1152921504606846976) :
  ∃ ys : List S53,Ev (fun k => laws_markSegmentS.f k xs m) (m + 7 * xs.length,ys) ∧ ys.length = xs.length ∧ ∀ j : Int,0 ≤ j → j < xs.length → rd_T53 ys j = mk_T53 (m + 7 * j):=by
 obtain ⟨ys,hev,hlen,_,hnew⟩:=mark_T53_l0 xs.length xs m 0 (by omega) (by omega) hm hb (by omega)
 exact ⟨ys,hev,hlen,fun j h1 h2 => by have:=hnew j h1 h2;rw [Int.sub_zero] at this;exact this⟩
set_option maxHeartbeats 2000000 in
theorem held_T53_l0 : ∀ (d : Nat) (ys : List S53) (m i : Int),0 ≤ i → (ys.length : Int) - i = d → 0 ≤ m → m + 7 * d ≤ 1152921504606846976 → (ys.length : Int) ≤ 1152921504606846976 →
  (∀ j : Int,i ≤ j → j < ys.length → rd_T53 ys j = mk_T53 (m + 7 * (j - i))) → Ev (fun k => laws_heldSegmentS.l0 k ys m i) (m + 7 * d):=by
 intro d
 induction d with
 | zero =>
  intro ys m i h0 hd hm hb hx _
  refine ⟨1,fun k hk => ?_⟩
  obtain ⟨k,rfl⟩ : ∃ q,k = q + 1:=⟨k - 1,by omega⟩
  simp only [laws_heldSegmentS.l0]
  rw [if_neg (by omega)]
  simp
 | succ d ih =>
  intro ys m i h0 hd hm hb hx hy
  have hlt : i < (ys.length : Int):=by omega
  have e0 : wrap64 (m + 1) = m + 1:=wrap_id (by omega) (by omega)
  have e1 : wrap64 (m + 1 + 1) = m + 1 + 1:=wrap_id (by omega) (by omega)
  have e2 : wrap64 (m + 1 + 1 + 1) = m + 1 + 1 + 1:=wrap_id (by omega) (by omega)
  have e3 : wrap64 (m + 1 + 1 + 1 + 1) = m + 1 + 1 + 1 + 1:=wrap_id (by omega) (by omega)
  have e4 : wrap64 (m + 1 + 1 + 1 + 1 + 1) = m + 1 + 1 + 1 + 1 + 1:=wrap_id (by omega) (by omega)
  have e5 : wrap64 (m + 1 + 1 + 1 + 1 + 1 + 1) = m + 1 + 1 + 1 + 1 + 1 + 1:=wrap_id (by omega) (by omega)
  have e6 : wrap64 (m + 1 + 1 + 1 + 1 + 1 + 1 + 1) = m + 1 + 1 + 1 + 1 + 1 + 1 + 1:=wrap_id (by omega) (by omega)
  have ei : wrap64 (i + 1) = i + 1:=wrap_id (by omega) (by omega)
  have hev:=ih ys (m + 1 + 1 + 1 + 1 + 1 + 1 + 1) (i + 1) (by omega) (by omega) (by omega) (by omega) hx (fun j h1 h2 => by rw [hy j (by omega) h2];congr 1;omega)
  have hri : rd_T53 ys i = mk_T53 m:=by rw [hy i (by omega) hlt];congr 1;omega
  have hr : m + 7 * ((d + 1 : Nat) : Int) = m + 1 + 1 + 1 + 1 + 1 + 1 + 1 + 7 * (d : Int):=by omega
  rw [hr]
  refine Ev.step (f:=fun k => (laws_markText.f k (m + 1 + 1 + 1 + 1 + 1 + 1)).bind fun t6 => if (mtx (m + 1 + 1 + 1 + 1 + 1 + 1)).toList = t6.toList then laws_heldSegmentS.l0 k ys (m + 1 + 1 + 1 + 1 + 1 + 1 + 1) (i + 1) else some (-1)) (fun k => ?_) ?_
  ·simp only [laws_heldSegmentS.l0]
   rw [if_pos hlt,if_pos h0]
   simp only [hri,mk_T53,e0,e1,e2,e3,e4,e5,e6,ei,if_true,bne_self_eq_false,Bool.false_eq_true,if_false]
  ·exact Ev.bind (mtx_ev (m + 1 + 1 + 1 + 1 + 1 + 1) (by omega)) (Ev.congr (fun k => if_pos rfl) (hev))
theorem held_T53_ev (ys : List S53) (m : Int) (hm : 0 ≤ m) (hb : m + 7 * ys.length ≤ 1152921504606846976) (hy : ∀ j : Int,0 ≤ j → j < ys.length → rd_T53 ys j = mk_T53 (m + 7 * j)) :
  Ev (fun k => laws_heldSegmentS.f k ys m) (m + 7 * ys.length) :=
 held_T53_l0 ys.length ys m 0 (by omega) (by omega) hm hb (by omega) (fun j h1 h2 => by rw [Int.sub_zero];exact hy j h1 h2)
end
section
/-! ### laws_FnExactConnAgain: function 10 -/
mutual
def laws_FnExactConnAgain.j0 : Nat → List (S53) → Int → List (S53) → Bool → ByteArray → Int → Int → Int → Int → Int → Int → Int → ByteArray → ByteArray → Bool → Option (Bool)
 | 0,_,_,_,_,_,_,_,_,_,_,_,_,_,_,_ => none
 | k + 1,x4,x5,x6,x37,x584000,x584001,x584002,x584003,x584004,x584005,x584006,x584007,x584008,x584009,x584010 => if x37 = true then (some false) else ((laws_markSegmentS.f k x6 1).bind fun bt616 => ((laws_heldSegmentS.f k bt616.2 1).bind fun t618 => (if t618 < 0 then (some false) else (if t618 = bt616.1 then ((laws_toConn.f x584000 x584001 x584002 x584003 x584004 x584005 x584006 x584007 x584008 x584009 x584010).bind fun bt619 => ((impl_ConnAgain.f k bt619.1 bt619.2.1 bt619.2.2.1 bt619.2.2.2.1 bt619.2.2.2.2.1 bt619.2.2.2.2.2.1 bt619.2.2.2.2.2.2.1 bt619.2.2.2.2.2.2.2.1 bt619.2.2.2.2.2.2.2.2.1 bt619.2.2.2.2.2.2.2.2.2.1 bt619.2.2.2.2.2.2.2.2.2.2).bind fun bt630 => ((laws_eqSegmentS.f k bt630.1 x4).bind fun t634 => (if t634 = true then (laws_FnExactConnAgain.j1 k bt616.2 bt616.1 (bt630.2 != x5)) else (laws_FnExactConnAgain.j1 k bt616.2 bt616.1 true))))) else (some false)))))
def laws_FnExactConnAgain.j1 : Nat → List (S53) → Int → Bool → Option (Bool)
 | 0,_,_,_ => none
 | k + 1,x6,x8,x63 => if x63 = true then (some false) else ((laws_heldSegmentS.f k x6 1).bind fun t635 => (if t635 < 0 then (some false) else (if t635 = x8 then (some true) else (some false))))
end
def laws_FnExactConnAgain.f (k : Nat) (a0_0 : ByteArray) (a0_1 : Int) (a0_2 : Int) (a0_3 : Int) (a0_4 : Int) (a0_5 : Int) (a0_6 : Int) (a0_7 : Int) (a0_8 : ByteArray) (a0_9 : ByteArray) (a0_10 : Bool) : Option (Bool):=(laws_szConn.f a0_0 a0_1 a0_2 a0_3 a0_4 a0_5 a0_6 a0_7 a0_8 a0_9 a0_10 1048576).bind fun t584 => (if t584 < 0 then (some true) else ((laws_toConn.f a0_0 a0_1 a0_2 a0_3 a0_4 a0_5 a0_6 a0_7 a0_8 a0_9 a0_10).bind fun bt585 => ((spec_ConnAgain.f k bt585.1 bt585.2.1 bt585.2.2.1 bt585.2.2.2.1 bt585.2.2.2.2.1 bt585.2.2.2.2.2.1 bt585.2.2.2.2.2.2.1 bt585.2.2.2.2.2.2.2.1 bt585.2.2.2.2.2.2.2.2.1 bt585.2.2.2.2.2.2.2.2.2.1 bt585.2.2.2.2.2.2.2.2.2.2).bind fun bt596 => ((laws_toConn.f a0_0 a0_1 a0_2 a0_3 a0_4 a0_5 a0_6 a0_7 a0_8 a0_9 a0_10).bind fun bt600 => ((impl_ConnAgain.f k bt600.1 bt600.2.1 bt600.2.2.1 bt600.2.2.2.1 bt600.2.2.2.2.1 bt600.2.2.2.2.2.1 bt600.2.2.2.2.2.2.1 bt600.2.2.2.2.2.2.2.1 bt600.2.2.2.2.2.2.2.2.1 bt600.2.2.2.2.2.2.2.2.2.1 bt600.2.2.2.2.2.2.2.2.2.2).bind fun bt611 => ((laws_eqSegmentS.f k bt611.1 bt596.1).bind fun t615 => (if t615 = true then (laws_FnExactConnAgain.j0 k bt596.1 bt596.2 bt611.1 (bt611.2 != bt596.2) a0_0 a0_1 a0_2 a0_3 a0_4 a0_5 a0_6 a0_7 a0_8 a0_9 a0_10) else (laws_FnExactConnAgain.j0 k bt596.1 bt596.2 bt611.1 true a0_0 a0_1 a0_2 a0_3 a0_4 a0_5 a0_6 a0_7 a0_8 a0_9 a0_10))))))))
theorem laws_FnExactConnAgain.mono_l : ∀ k,(∀ y0 y1 y2 y3 y4 y5 y6 y7 y8 y9 y10 y11 y12 y13 y14,LeO (laws_FnExactConnAgain.j0 k y0 y1 y2 y3 y4 y5 y6 y7 y8 y9 y10 y11 y12 y13 y14) (laws_FnExactConnAgain.j0 (k + 1) y0 y1 y2 y3 y4 y5 y6 y7 y8 y9 y10 y11 y12 y13 y14)) ∧ (∀ y0 y1 y2,LeO (laws_FnExactConnAgain.j1 k y0 y1 y2) (laws_FnExactConnAgain.j1 (k + 1) y0 y1 y2))
 | 0 => ⟨fun _ _ _ _ _ _ _ _ _ _ _ _ _ _ _ r h => by simp [laws_FnExactConnAgain.j0] at h,fun _ _ _ r h => by simp [laws_FnExactConnAgain.j1] at h⟩
 | k + 1 => by
  obtain ⟨ih0,ih1⟩:=laws_FnExactConnAgain.mono_l k
  refine ⟨?_,?_⟩
  ·intro y0 y1 y2 y3 y4 y5 y6 y7 y8 y9 y10 y11 y12 y13 y14
   unfold laws_FnExactConnAgain.j0
   repeat' first
   | (with_reducible exact ih0 _ _ _ _ _ _ _ _ _ _ _ _ _ _ _)
   | (with_reducible exact ih1 _ _ _)
   | (with_reducible exact impl_ConnAgain.mono ..)
   | (with_reducible exact laws_eqSegmentS.mono ..)
   | (with_reducible exact laws_heldSegmentS.mono ..)
   | (with_reducible exact laws_markSegmentS.mono ..)
   | (with_reducible exact spec_ConnAgain.mono ..)
   | (with_reducible exact LeO.refl _)
   | (with_reducible exact LeO.none _)
   | (with_reducible refine LeO.ite ?_ ?_)
   | (with_reducible refine LeO.bind ?_ (fun _ => ?_))
   | exact ih0 _ _ _ _ _ _ _ _ _ _ _ _ _ _ _
   | exact ih1 _ _ _
   | exact impl_ConnAgain.mono ..
   | exact laws_eqSegmentS.mono ..
   | exact laws_heldSegmentS.mono ..
   | exact laws_markSegmentS.mono ..
   | exact spec_ConnAgain.mono ..
   | exact LeO.none _
   | refine LeO.ite ?_ ?_
   | refine LeO.bind ?_ (fun _ => ?_)
  ·intro y0 y1 y2
   unfold laws_FnExactConnAgain.j1
   repeat' first
   | (with_reducible exact ih0 _ _ _ _ _ _ _ _ _ _ _ _ _ _ _)
   | (with_reducible exact ih1 _ _ _)
   | (with_reducible exact impl_ConnAgain.mono ..)
   | (with_reducible exact laws_eqSegmentS.mono ..)
   | (with_reducible exact laws_heldSegmentS.mono ..)
   | (with_reducible exact laws_markSegmentS.mono ..)
   | (with_reducible exact spec_ConnAgain.mono ..)
   | (with_reducible exact LeO.refl _)
   | (with_reducible exact LeO.none _)
   | (with_reducible refine LeO.ite ?_ ?_)
   | (with_reducible refine LeO.bind ?_ (fun _ => ?_))
   | exact ih0 _ _ _ _ _ _ _ _ _ _ _ _ _ _ _
   | exact ih1 _ _ _
   | exact impl_ConnAgain.mono ..
   | exact laws_eqSegmentS.mono ..
   | exact laws_heldSegmentS.mono ..
   | exact laws_markSegmentS.mono ..
   | exact spec_ConnAgain.mono ..
   | exact LeO.none _
   | refine LeO.ite ?_ ?_
   | refine LeO.bind ?_ (fun _ => ?_)
theorem laws_FnExactConnAgain.mono : ∀ a0 a1 a2 a3 a4 a5 a6 a7 a8 a9 a10 k,LeO (laws_FnExactConnAgain.f k a0 a1 a2 a3 a4 a5 a6 a7 a8 a9 a10) (laws_FnExactConnAgain.f (k + 1) a0 a1 a2 a3 a4 a5 a6 a7 a8 a9 a10):=by
 intro a0 a1 a2 a3 a4 a5 a6 a7 a8 a9 a10 k
 obtain ⟨ih0,ih1⟩:=laws_FnExactConnAgain.mono_l k
 unfold laws_FnExactConnAgain.f
 repeat' first
   | (with_reducible exact ih0 _ _ _ _ _ _ _ _ _ _ _ _ _ _ _)
   | (with_reducible exact ih1 _ _ _)
   | (with_reducible exact impl_ConnAgain.mono ..)
   | (with_reducible exact laws_eqSegmentS.mono ..)
   | (with_reducible exact laws_heldSegmentS.mono ..)
   | (with_reducible exact laws_markSegmentS.mono ..)
   | (with_reducible exact spec_ConnAgain.mono ..)
   | (with_reducible exact LeO.refl _)
   | (with_reducible exact LeO.none _)
   | (with_reducible refine LeO.ite ?_ ?_)
   | (with_reducible refine LeO.bind ?_ (fun _ => ?_))
   | exact ih0 _ _ _ _ _ _ _ _ _ _ _ _ _ _ _
   | exact ih1 _ _ _
   | exact impl_ConnAgain.mono ..
   | exact laws_eqSegmentS.mono ..
   | exact laws_heldSegmentS.mono ..
   | exact laws_markSegmentS.mono ..
   | exact spec_ConnAgain.mono ..
   | exact LeO.none _
   | refine LeO.ite ?_ ?_
   | refine LeO.bind ?_ (fun _ => ?_)
set_option maxHeartbeats 8000000 in
set_option maxRecDepth 100000 in
theorem laws_FnExactConnAgain.calls (k : Nat) (a0_0 : ByteArray) (a0_1 : Int) (a0_2 : Int) (a0_3 : Int) (a0_4 : Int) (a0_5 : Int) (a0_6 : Int) (a0_7 : Int) (a0_8 : ByteArray) (a0_9 : ByteArray) (a0_10 : Bool) (r : Bool) (w : World) (h : laws_FnExactConnAgain.f k a0_0 a0_1 a0_2 a0_3 a0_4 a0_5 a0_6 a0_7 a0_8 a0_9 a0_10 = some r) :
  Calls Try.prog 10 #[.agg #[.string a0_0,.int .i64 a0_1,.int .i64 a0_2,.int .i64 a0_3,.int .i64 a0_4,.int .i64 a0_5,.int .i64 a0_6,.int .i64 a0_7,.string a0_8,.string a0_9,.bool a0_10]] w fun e w' => e = .returned (.bool r) ∧ Below w.heap.size w w':=by
 have hu31:=Try.underlying31
 have HB:=aMk (Below.refl w.heap.size w)
 have H : ((laws_szConn.f a0_0 a0_1 a0_2 a0_3 a0_4 a0_5 a0_6 a0_7 a0_8 a0_9 a0_10 1048576).bind fun t584 => (if t584 < 0 then (some true) else ((laws_toConn.f a0_0 a0_1 a0_2 a0_3 a0_4 a0_5 a0_6 a0_7 a0_8 a0_9 a0_10).bind fun bt585 => ((spec_ConnAgain.f k bt585.1 bt585.2.1 bt585.2.2.1 bt585.2.2.2.1 bt585.2.2.2.2.1 bt585.2.2.2.2.2.1 bt585.2.2.2.2.2.2.1 bt585.2.2.2.2.2.2.2.1 bt585.2.2.2.2.2.2.2.2.1 bt585.2.2.2.2.2.2.2.2.2.1 bt585.2.2.2.2.2.2.2.2.2.2).bind fun bt596 => ((laws_toConn.f a0_0 a0_1 a0_2 a0_3 a0_4 a0_5 a0_6 a0_7 a0_8 a0_9 a0_10).bind fun bt600 => ((impl_ConnAgain.f k bt600.1 bt600.2.1 bt600.2.2.1 bt600.2.2.2.1 bt600.2.2.2.2.1 bt600.2.2.2.2.2.1 bt600.2.2.2.2.2.2.1 bt600.2.2.2.2.2.2.2.1 bt600.2.2.2.2.2.2.2.2.1 bt600.2.2.2.2.2.2.2.2.2.1 bt600.2.2.2.2.2.2.2.2.2.2).bind fun bt611 => ((laws_eqSegmentS.f k bt611.1 bt596.1).bind fun t615 => (if t615 = true then (laws_FnExactConnAgain.j0 k bt596.1 bt596.2 bt611.1 (bt611.2 != bt596.2) a0_0 a0_1 a0_2 a0_3 a0_4 a0_5 a0_6 a0_7 a0_8 a0_9 a0_10) else (laws_FnExactConnAgain.j0 k bt596.1 bt596.2 bt611.1 true a0_0 a0_1 a0_2 a0_3 a0_4 a0_5 a0_6 a0_7 a0_8 a0_9 a0_10))))))))) = some r:=h
 clear h
 replace H:=Option.bind_eq_some_iff.mp H
 obtain ⟨t584,A20,H⟩:=H
 replace H : (if t584 < 0 then (some true) else ((laws_toConn.f a0_0 a0_1 a0_2 a0_3 a0_4 a0_5 a0_6 a0_7 a0_8 a0_9 a0_10).bind fun bt585 => ((spec_ConnAgain.f k bt585.1 bt585.2.1 bt585.2.2.1 bt585.2.2.2.1 bt585.2.2.2.2.1 bt585.2.2.2.2.2.1 bt585.2.2.2.2.2.2.1 bt585.2.2.2.2.2.2.2.1 bt585.2.2.2.2.2.2.2.2.1 bt585.2.2.2.2.2.2.2.2.2.1 bt585.2.2.2.2.2.2.2.2.2.2).bind fun bt596 => ((laws_toConn.f a0_0 a0_1 a0_2 a0_3 a0_4 a0_5 a0_6 a0_7 a0_8 a0_9 a0_10).bind fun bt600 => ((impl_ConnAgain.f k bt600.1 bt600.2.1 bt600.2.2.1 bt600.2.2.2.1 bt600.2.2.2.2.1 bt600.2.2.2.2.2.1 bt600.2.2.2.2.2.2.1 bt600.2.2.2.2.2.2.2.1 bt600.2.2.2.2.2.2.2.2.1 bt600.2.2.2.2.2.2.2.2.2.1 bt600.2.2.2.2.2.2.2.2.2.2).bind fun bt611 => ((laws_eqSegmentS.f k bt611.1 bt596.1).bind fun t615 => (if t615 = true then (laws_FnExactConnAgain.j0 k bt596.1 bt596.2 bt611.1 (bt611.2 != bt596.2) a0_0 a0_1 a0_2 a0_3 a0_4 a0_5 a0_6 a0_7 a0_8 a0_9 a0_10) else (laws_FnExactConnAgain.j0 k bt596.1 bt596.2 bt611.1 true a0_0 a0_1 a0_2 a0_3 a0_4 a0_5 a0_6 a0_7 a0_8 a0_9 a0_10)))))))) = some r:=H
 have A2:=aMk A20
 clear A20
 by_cases c3 : t584 < 0
 ·rw [if_pos c3] at H
  have c3b0 : decide (t584 < 0) = true:=decide_eq_true c3
  clear c3
  obtain rfl:=Option.some.inj H
  go_enter Try.func10,Try.ntmps10
  go_wp2_with (first|((with_reducible refine gate_dst (N:=1) rfl ?_);refine box_event ?hg (N:=1) ?hd (cs:=#[.string a0_0,.int .i64 a0_1,.int .i64 a0_2,.int .i64 a0_3,.int .i64 a0_4,.int .i64 a0_5,.int .i64 a0_6,.int .i64 a0_7,.string a0_8,.string a0_9,.bool a0_10]) (t:=31) ?hr ?_;(case hd => rfl);(case hg => rfl);(case hr => first|(go_simp;done)|(go_simp;rfl));intro gb583 hg w4 hbox hb;have n0_:=aMk (below_step (by repeat first|exact HB.out|apply bwA|apply bwN|apply bw1) hb);have n1_:=aMk (hbox);have n2_:=aMk ((by rw [hg];exact (below_size (by repeat first|exact HB.out|apply bwA|apply bwN|apply bw1)) : w.heap.size ≤ gb583));have n3_:=aMk ((by rw [hg];exact (below_size (by repeat first|exact HB.out|apply bwA|apply bwN|apply bw1)) : w.heap.size ≤ gb583));clear HB;have HB:=n0_;have BK583:=n1_;have GW583:=n2_;have GE583:=n3_;clear n0_ n1_ n2_ n3_;clear hb hbox hg;have hcz5_0 : w4.cell? ⟨gb583,0,none⟩ = some (.string a0_0):=(bCe BK583.out 0).trans rfl;have hcz5_1 : w4.cell? ⟨gb583,1,none⟩ = some (.int .i64 a0_1):=(bCe BK583.out 1).trans rfl;have hcz5_2 : w4.cell? ⟨gb583,2,none⟩ = some (.int .i64 a0_2):=(bCe BK583.out 2).trans rfl;have hcz5_3 : w4.cell? ⟨gb583,3,none⟩ = some (.int .i64 a0_3):=(bCe BK583.out 3).trans rfl;have hcz5_4 : w4.cell? ⟨gb583,4,none⟩ = some (.int .i64 a0_4):=(bCe BK583.out 4).trans rfl;have hcz5_5 : w4.cell? ⟨gb583,5,none⟩ = some (.int .i64 a0_5):=(bCe BK583.out 5).trans rfl;have hcz5_6 : w4.cell? ⟨gb583,6,none⟩ = some (.int .i64 a0_6):=(bCe BK583.out 6).trans rfl;have hcz5_7 : w4.cell? ⟨gb583,7,none⟩ = some (.int .i64 a0_7):=(bCe BK583.out 7).trans rfl;have hcz5_8 : w4.cell? ⟨gb583,8,none⟩ = some (.string a0_8):=(bCe BK583.out 8).trans rfl;have hcz5_9 : w4.cell? ⟨gb583,9,none⟩ = some (.string a0_9):=(bCe BK583.out 9).trans rfl;have hcz5_10 : w4.cell? ⟨gb583,10,none⟩ = some (.bool a0_10):=(bCe BK583.out 10).trans rfl;have hfz5_0:=bFr BK583.out 0;have hfz5_1:=bFr BK583.out 1;have hfz5_2:=bFr BK583.out 2;have hfz5_3:=bFr BK583.out 3;have hfz5_4:=bFr BK583.out 4;have hfz5_5:=bFr BK583.out 5;have hfz5_6:=bFr BK583.out 6;have hfz5_7:=bFr BK583.out 7;have hfz5_8:=bFr BK583.out 8;have hfz5_9:=bFr BK583.out 9;have hfz5_10:=bFr BK583.out 10)|((with_reducible refine gate_callee (f:=22) rfl ?_);refine goesL_ (some 14) rfl rfl Try.func22 (by kernel_rfl) rfl #[.agg #[.string a0_0,.int .i64 a0_1,.int .i64 a0_2,.int .i64 a0_3,.int .i64 a0_4,.int .i64 a0_5,.int .i64 a0_6,.int .i64 a0_7,.string a0_8,.string a0_9,.bool a0_10],.int .i64 1048576] rfl (by (try simp only [List.map_toArray,List.map_cons,List.map_nil]);first | done | rfl|(simp only [List.length_drop,List.length_take];rfl)) ?_;(with_reducible refine (laws_szConn.calls a0_0 a0_1 a0_2 a0_3 a0_4 a0_5 a0_6 a0_7 a0_8 a0_9 a0_10 1048576 t584 _ A2.out).mono ?_);rintro e w6 ⟨rfl,hb⟩;refine ⟨_,rfl,?_⟩;have n0_:=aMk (blk_below (g:=gb583) (o:=.cells #[.string a0_0,.int .i64 a0_1,.int .i64 a0_2,.int .i64 a0_3,.int .i64 a0_4,.int .i64 a0_5,.int .i64 a0_6,.int .i64 a0_7,.string a0_8,.string a0_9,.bool a0_10] 31 (0,0)) (by (with_reducible repeat (first|refine bDn ?_ _|refine bDr ?_|refine bAl ?_ _));exact BK583.out) hb);have n1_:=aMk (below_step (by repeat (first|(with_reducible first|exact HB.out|apply bwA|apply bwN|apply bw1|refine below_set ?_ GE583.out)|exact HB.out)) hb);clear BK583;clear HB;have BK583:=n0_;have HB:=n1_;clear n0_ n1_;(try clear hb);(try clear hb2);(try clear hk);(try clear hi)))
  go_ret
  exact ⟨by first | rfl|(simp [errW_none,errW_some] <;> rfl)|(simp [*,errW_none,errW_some] <;> rfl),by repeat (first|(with_reducible first|exact HB.out|apply bwA|apply bwN|apply bw1|refine below_set ?_ GE583.out)|exact HB.out)⟩
 ·rw [if_neg c3] at H
  have c3b0 : decide (t584 < 0) = false:=decide_eq_false c3
  clear c3
  replace H:=Option.bind_eq_some_iff.mp H
  obtain ⟨⟨t585,t586,t587,t588,t589,t590,t591,t592,t593,t594,t595⟩,A70,H⟩:=H
  replace H : ((spec_ConnAgain.f k t585 t586 t587 t588 t589 t590 t591 t592 t593 t594 t595).bind fun bt596 => ((laws_toConn.f a0_0 a0_1 a0_2 a0_3 a0_4 a0_5 a0_6 a0_7 a0_8 a0_9 a0_10).bind fun bt600 => ((impl_ConnAgain.f k bt600.1 bt600.2.1 bt600.2.2.1 bt600.2.2.2.1 bt600.2.2.2.2.1 bt600.2.2.2.2.2.1 bt600.2.2.2.2.2.2.1 bt600.2.2.2.2.2.2.2.1 bt600.2.2.2.2.2.2.2.2.1 bt600.2.2.2.2.2.2.2.2.2.1 bt600.2.2.2.2.2.2.2.2.2.2).bind fun bt611 => ((laws_eqSegmentS.f k bt611.1 bt596.1).bind fun t615 => (if t615 = true then (laws_FnExactConnAgain.j0 k bt596.1 bt596.2 bt611.1 (bt611.2 != bt596.2) a0_0 a0_1 a0_2 a0_3 a0_4 a0_5 a0_6 a0_7 a0_8 a0_9 a0_10) else (laws_FnExactConnAgain.j0 k bt596.1 bt596.2 bt611.1 true a0_0 a0_1 a0_2 a0_3 a0_4 a0_5 a0_6 a0_7 a0_8 a0_9 a0_10)))))) = some r:=H
  have A7:=aMk A70
  clear A70
  replace H:=Option.bind_eq_some_iff.mp H
  obtain ⟨⟨t596,t599⟩,A80,H⟩:=H
  replace H : ((laws_toConn.f a0_0 a0_1 a0_2 a0_3 a0_4 a0_5 a0_6 a0_7 a0_8 a0_9 a0_10).bind fun bt600 => ((impl_ConnAgain.f k bt600.1 bt600.2.1 bt600.2.2.1 bt600.2.2.2.1 bt600.2.2.2.2.1 bt600.2.2.2.2.2.1 bt600.2.2.2.2.2.2.1 bt600.2.2.2.2.2.2.2.1 bt600.2.2.2.2.2.2.2.2.1 bt600.2.2.2.2.2.2.2.2.2.1 bt600.2.2.2.2.2.2.2.2.2.2).bind fun bt611 => ((laws_eqSegmentS.f k bt611.1 t596).bind fun t615 => (if t615 = true then (laws_FnExactConnAgain.j0 k t596 t599 bt611.1 (bt611.2 != t599) a0_0 a0_1 a0_2 a0_3 a0_4 a0_5 a0_6 a0_7 a0_8 a0_9 a0_10) else (laws_FnExactConnAgain.j0 k t596 t599 bt611.1 true a0_0 a0_1 a0_2 a0_3 a0_4 a0_5 a0_6 a0_7 a0_8 a0_9 a0_10))))) = some r:=H
  have A8:=aMk A80
  clear A80
  replace H:=Option.bind_eq_some_iff.mp H
  obtain ⟨⟨t600,t601,t602,t603,t604,t605,t606,t607,t608,t609,t610⟩,A90,H⟩:=H
  replace H : ((impl_ConnAgain.f k t600 t601 t602 t603 t604 t605 t606 t607 t608 t609 t610).bind fun bt611 => ((laws_eqSegmentS.f k bt611.1 t596).bind fun t615 => (if t615 = true then (laws_FnExactConnAgain.j0 k t596 t599 bt611.1 (bt611.2 != t599) a0_0 a0_1 a0_2 a0_3 a0_4 a0_5 a0_6 a0_7 a0_8 a0_9 a0_10) else (laws_FnExactConnAgain.j0 k t596 t599 bt611.1 true a0_0 a0_1 a0_2 a0_3 a0_4 a0_5 a0_6 a0_7 a0_8 a0_9 a0_10)))) = some r:=H
  have A9:=aMk A90
  clear A90
  replace H:=Option.bind_eq_some_iff.mp H
  obtain ⟨⟨t611,t614⟩,A100,H⟩:=H
  replace H : ((laws_eqSegmentS.f k t611 t596).bind fun t615 => (if t615 = true then (laws_FnExactConnAgain.j0 k t596 t599 t611 (t614 != t599) a0_0 a0_1 a0_2 a0_3 a0_4 a0_5 a0_6 a0_7 a0_8 a0_9 a0_10) else (laws_FnExactConnAgain.j0 k t596 t599 t611 true a0_0 a0_1 a0_2 a0_3 a0_4 a0_5 a0_6 a0_7 a0_8 a0_9 a0_10))) = some r:=H
  have A10:=aMk A100
  clear A100
  have HC11:=aMk H
  clear H
  go_enter Try.func10,Try.ntmps10
  go_upto_region 7 with (first|((with_reducible refine gate_dst (N:=1) rfl ?_);refine box_event ?hg (N:=1) ?hd (cs:=#[.string a0_0,.int .i64 a0_1,.int .i64 a0_2,.int .i64 a0_3,.int .i64 a0_4,.int .i64 a0_5,.int .i64 a0_6,.int .i64 a0_7,.string a0_8,.string a0_9,.bool a0_10]) (t:=31) ?hr ?_;(case hd => rfl);(case hg => rfl);(case hr => first|(go_simp;done)|(go_simp;rfl));intro gb583 hg w12 hbox hb;have n0_:=aMk (below_step (by repeat first|exact HB.out|apply bwA|apply bwN|apply bw1) hb);have n1_:=aMk (hbox);have n2_:=aMk ((by rw [hg];exact (below_size (by repeat first|exact HB.out|apply bwA|apply bwN|apply bw1)) : w.heap.size ≤ gb583));have n3_:=aMk ((by rw [hg];exact (below_size (by repeat first|exact HB.out|apply bwA|apply bwN|apply bw1)) : w.heap.size ≤ gb583));clear HB;have HB:=n0_;have BK583:=n1_;have GW583:=n2_;have GE583:=n3_;clear n0_ n1_ n2_ n3_;clear hb hbox hg;have hcz13_0 : w12.cell? ⟨gb583,0,none⟩ = some (.string a0_0):=(bCe BK583.out 0).trans rfl;have hcz13_1 : w12.cell? ⟨gb583,1,none⟩ = some (.int .i64 a0_1):=(bCe BK583.out 1).trans rfl;have hcz13_2 : w12.cell? ⟨gb583,2,none⟩ = some (.int .i64 a0_2):=(bCe BK583.out 2).trans rfl;have hcz13_3 : w12.cell? ⟨gb583,3,none⟩ = some (.int .i64 a0_3):=(bCe BK583.out 3).trans rfl;have hcz13_4 : w12.cell? ⟨gb583,4,none⟩ = some (.int .i64 a0_4):=(bCe BK583.out 4).trans rfl;have hcz13_5 : w12.cell? ⟨gb583,5,none⟩ = some (.int .i64 a0_5):=(bCe BK583.out 5).trans rfl;have hcz13_6 : w12.cell? ⟨gb583,6,none⟩ = some (.int .i64 a0_6):=(bCe BK583.out 6).trans rfl;have hcz13_7 : w12.cell? ⟨gb583,7,none⟩ = some (.int .i64 a0_7):=(bCe BK583.out 7).trans rfl;have hcz13_8 : w12.cell? ⟨gb583,8,none⟩ = some (.string a0_8):=(bCe BK583.out 8).trans rfl;have hcz13_9 : w12.cell? ⟨gb583,9,none⟩ = some (.string a0_9):=(bCe BK583.out 9).trans rfl;have hcz13_10 : w12.cell? ⟨gb583,10,none⟩ = some (.bool a0_10):=(bCe BK583.out 10).trans rfl;have hfz13_0:=bFr BK583.out 0;have hfz13_1:=bFr BK583.out 1;have hfz13_2:=bFr BK583.out 2;have hfz13_3:=bFr BK583.out 3;have hfz13_4:=bFr BK583.out 4;have hfz13_5:=bFr BK583.out 5;have hfz13_6:=bFr BK583.out 6;have hfz13_7:=bFr BK583.out 7;have hfz13_8:=bFr BK583.out 8;have hfz13_9:=bFr BK583.out 9;have hfz13_10:=bFr BK583.out 10)|((with_reducible refine gate_callee (f:=22) rfl ?_);refine goesL_ (some 14) rfl rfl Try.func22 (by kernel_rfl) rfl #[.agg #[.string a0_0,.int .i64 a0_1,.int .i64 a0_2,.int .i64 a0_3,.int .i64 a0_4,.int .i64 a0_5,.int .i64 a0_6,.int .i64 a0_7,.string a0_8,.string a0_9,.bool a0_10],.int .i64 1048576] rfl (by (try simp only [List.map_toArray,List.map_cons,List.map_nil]);first | done | rfl|(simp only [List.length_drop,List.length_take];rfl)) ?_;(with_reducible refine (laws_szConn.calls a0_0 a0_1 a0_2 a0_3 a0_4 a0_5 a0_6 a0_7 a0_8 a0_9 a0_10 1048576 t584 _ A2.out).mono ?_);rintro e w14 ⟨rfl,hb⟩;refine ⟨_,rfl,?_⟩;have n0_:=aMk (blk_below (g:=gb583) (o:=.cells #[.string a0_0,.int .i64 a0_1,.int .i64 a0_2,.int .i64 a0_3,.int .i64 a0_4,.int .i64 a0_5,.int .i64 a0_6,.int .i64 a0_7,.string a0_8,.string a0_9,.bool a0_10] 31 (0,0)) (by (with_reducible repeat (first|refine bDn ?_ _|refine bDr ?_|refine bAl ?_ _));exact BK583.out) hb);have n1_:=aMk (below_step (by repeat (first|(with_reducible first|exact HB.out|apply bwA|apply bwN|apply bw1|refine below_set ?_ GE583.out)|exact HB.out)) hb);clear BK583;clear HB;have BK583:=n0_;have HB:=n1_;clear n0_ n1_;(try clear hb);(try clear hb2);(try clear hk);(try clear hi);have hcz15_0 : w14.cell? ⟨gb583,0,none⟩ = some (.string a0_0):=(bCe BK583.out 0).trans rfl;have hcz15_1 : w14.cell? ⟨gb583,1,none⟩ = some (.int .i64 a0_1):=(bCe BK583.out 1).trans rfl;have hcz15_2 : w14.cell? ⟨gb583,2,none⟩ = some (.int .i64 a0_2):=(bCe BK583.out 2).trans rfl;have hcz15_3 : w14.cell? ⟨gb583,3,none⟩ = some (.int .i64 a0_3):=(bCe BK583.out 3).trans rfl;have hcz15_4 : w14.cell? ⟨gb583,4,none⟩ = some (.int .i64 a0_4):=(bCe BK583.out 4).trans rfl;have hcz15_5 : w14.cell? ⟨gb583,5,none⟩ = some (.int .i64 a0_5):=(bCe BK583.out 5).trans rfl;have hcz15_6 : w14.cell? ⟨gb583,6,none⟩ = some (.int .i64 a0_6):=(bCe BK583.out 6).trans rfl;have hcz15_7 : w14.cell? ⟨gb583,7,none⟩ = some (.int .i64 a0_7):=(bCe BK583.out 7).trans rfl;have hcz15_8 : w14.cell? ⟨gb583,8,none⟩ = some (.string a0_8):=(bCe BK583.out 8).trans rfl;have hcz15_9 : w14.cell? ⟨gb583,9,none⟩ = some (.string a0_9):=(bCe BK583.out 9).trans rfl;have hcz15_10 : w14.cell? ⟨gb583,10,none⟩ = some (.bool a0_10):=(bCe BK583.out 10).trans rfl;have hfz15_0:=bFr BK583.out 0;have hfz15_1:=bFr BK583.out 1;have hfz15_2:=bFr BK583.out 2;have hfz15_3:=bFr BK583.out 3;have hfz15_4:=bFr BK583.out 4;have hfz15_5:=bFr BK583.out 5;have hfz15_6:=bFr BK583.out 6;have hfz15_7:=bFr BK583.out 7;have hfz15_8:=bFr BK583.out 8;have hfz15_9:=bFr BK583.out 9;have hfz15_10:=bFr BK583.out 10)|((with_reducible refine gate_callee (f:=24) rfl ?_);refine goesL_ (some 19) rfl rfl Try.func24 (by kernel_rfl) rfl #[.agg #[.string a0_0,.int .i64 a0_1,.int .i64 a0_2,.int .i64 a0_3,.int .i64 a0_4,.int .i64 a0_5,.int .i64 a0_6,.int .i64 a0_7,.string a0_8,.string a0_9,.bool a0_10]] rfl (by (try simp only [List.map_toArray,List.map_cons,List.map_nil]);first | done | rfl|(simp only [List.length_drop,List.length_take];rfl)) ?_;(with_reducible refine (laws_toConn.calls a0_0 a0_1 a0_2 a0_3 a0_4 a0_5 a0_6 a0_7 a0_8 a0_9 a0_10 t585 t586 t587 t588 t589 t590 t591 t592 t593 t594 t595 _ A7.out).mono ?_);rintro e w16 ⟨rfl,hb⟩;refine ⟨_,rfl,?_⟩;have n0_:=aMk (blk_below (g:=gb583) (o:=.cells #[.string a0_0,.int .i64 a0_1,.int .i64 a0_2,.int .i64 a0_3,.int .i64 a0_4,.int .i64 a0_5,.int .i64 a0_6,.int .i64 a0_7,.string a0_8,.string a0_9,.bool a0_10] 31 (0,0)) (by (with_reducible repeat (first|refine bDn ?_ _|refine bDr ?_|refine bAl ?_ _));exact BK583.out) hb);have n1_:=aMk (below_step (by repeat (first|(with_reducible first|exact HB.out|apply bwA|apply bwN|apply bw1|refine below_set ?_ GE583.out)|exact HB.out)) hb);clear BK583;clear HB;have BK583:=n0_;have HB:=n1_;clear n0_ n1_;(try clear hb);(try clear hb2);(try clear hk);(try clear hi))|((with_reducible refine gate_callee (f:=41) rfl ?_);refine goesL_ (some 20) rfl rfl Try.func41 (by kernel_rfl) rfl #[.agg #[.string t585,.int .i64 t586,.int .i64 t587,.int .i64 t588,.int .i64 t589,.int .i64 t590,.int .i64 t591,.int .i64 t592,.string t593,.string t594,.bool t595]] rfl (by (try simp only [List.map_toArray,List.map_cons,List.map_nil]);first | done | rfl|(simp only [List.length_drop,List.length_take];rfl)) ?_;(with_reducible refine (spec_ConnAgain.calls k t585 t586 t587 t588 t589 t590 t591 t592 t593 t594 t595 t596 t599 _ A8.out).mono ?_);rintro e w17 ⟨v597,rfl,ho0,hb⟩;refine ⟨_,rfl,?_⟩;have n0_:=aMk (Kd.R_lower ho0 (below_size (by repeat (first|(with_reducible first|exact HB.out|apply bwA|apply bwN|apply bw1|refine below_set ?_ GE583.out)|exact HB.out))));have n1_:=aMk (blk_below (g:=gb583) (o:=.cells #[.string a0_0,.int .i64 a0_1,.int .i64 a0_2,.int .i64 a0_3,.int .i64 a0_4,.int .i64 a0_5,.int .i64 a0_6,.int .i64 a0_7,.string a0_8,.string a0_9,.bool a0_10] 31 (0,0)) (by (with_reducible repeat (first|refine bDn ?_ _|refine bDr ?_|refine bAl ?_ _));exact BK583.out) hb);have n2_:=aMk (below_step (by repeat (first|(with_reducible first|exact HB.out|apply bwA|apply bwN|apply bw1|refine below_set ?_ GE583.out)|exact HB.out)) hb);clear BK583;clear HB;have HO598:=n0_;have BK583:=n1_;have HB:=n2_;clear n0_ n1_ n2_;(try clear hb);(try clear hb2);(try clear hk);(try clear hi);(try clear ho0);have hcz18_0 : w17.cell? ⟨gb583,0,none⟩ = some (.string a0_0):=(bCe BK583.out 0).trans rfl;have hcz18_1 : w17.cell? ⟨gb583,1,none⟩ = some (.int .i64 a0_1):=(bCe BK583.out 1).trans rfl;have hcz18_2 : w17.cell? ⟨gb583,2,none⟩ = some (.int .i64 a0_2):=(bCe BK583.out 2).trans rfl;have hcz18_3 : w17.cell? ⟨gb583,3,none⟩ = some (.int .i64 a0_3):=(bCe BK583.out 3).trans rfl;have hcz18_4 : w17.cell? ⟨gb583,4,none⟩ = some (.int .i64 a0_4):=(bCe BK583.out 4).trans rfl;have hcz18_5 : w17.cell? ⟨gb583,5,none⟩ = some (.int .i64 a0_5):=(bCe BK583.out 5).trans rfl;have hcz18_6 : w17.cell? ⟨gb583,6,none⟩ = some (.int .i64 a0_6):=(bCe BK583.out 6).trans rfl;have hcz18_7 : w17.cell? ⟨gb583,7,none⟩ = some (.int .i64 a0_7):=(bCe BK583.out 7).trans rfl;have hcz18_8 : w17.cell? ⟨gb583,8,none⟩ = some (.string a0_8):=(bCe BK583.out 8).trans rfl;have hcz18_9 : w17.cell? ⟨gb583,9,none⟩ = some (.string a0_9):=(bCe BK583.out 9).trans rfl;have hcz18_10 : w17.cell? ⟨gb583,10,none⟩ = some (.bool a0_10):=(bCe BK583.out 10).trans rfl;have hfz18_0:=bFr BK583.out 0;have hfz18_1:=bFr BK583.out 1;have hfz18_2:=bFr BK583.out 2;have hfz18_3:=bFr BK583.out 3;have hfz18_4:=bFr BK583.out 4;have hfz18_5:=bFr BK583.out 5;have hfz18_6:=bFr BK583.out 6;have hfz18_7:=bFr BK583.out 7;have hfz18_8:=bFr BK583.out 8;have hfz18_9:=bFr BK583.out 9;have hfz18_10:=bFr BK583.out 10)|((with_reducible refine gate_callee (f:=24) rfl ?_);refine goesL_ (some 25) rfl rfl Try.func24 (by kernel_rfl) rfl #[.agg #[.string a0_0,.int .i64 a0_1,.int .i64 a0_2,.int .i64 a0_3,.int .i64 a0_4,.int .i64 a0_5,.int .i64 a0_6,.int .i64 a0_7,.string a0_8,.string a0_9,.bool a0_10]] rfl (by (try simp only [List.map_toArray,List.map_cons,List.map_nil]);first | done | rfl|(simp only [List.length_drop,List.length_take];rfl)) ?_;(with_reducible refine (laws_toConn.calls a0_0 a0_1 a0_2 a0_3 a0_4 a0_5 a0_6 a0_7 a0_8 a0_9 a0_10 t600 t601 t602 t603 t604 t605 t606 t607 t608 t609 t610 _ A9.out).mono ?_);rintro e w19 ⟨rfl,hb⟩;refine ⟨_,rfl,?_⟩;have n0_:=aMk (Kd.R_below (by (with_reducible repeat (first|apply Kd.R_alloc|apply Kd.R_drewN|apply Kd.R_drew));exact HO598.out) hb);have n1_:=aMk (blk_below (g:=gb583) (o:=.cells #[.string a0_0,.int .i64 a0_1,.int .i64 a0_2,.int .i64 a0_3,.int .i64 a0_4,.int .i64 a0_5,.int .i64 a0_6,.int .i64 a0_7,.string a0_8,.string a0_9,.bool a0_10] 31 (0,0)) (by (with_reducible repeat (first|refine bDn ?_ _|refine bDr ?_|refine bAl ?_ _));exact BK583.out) hb);have n2_:=aMk (below_step (by repeat (first|(with_reducible first|exact HB.out|apply bwA|apply bwN|apply bw1|refine below_set ?_ GE583.out)|exact HB.out)) hb);clear HO598;clear BK583;clear HB;have HO598:=n0_;have BK583:=n1_;have HB:=n2_;clear n0_ n1_ n2_;(try clear hb);(try clear hb2);(try clear hk);(try clear hi))|((with_reducible refine gate_callee (f:=42) rfl ?_);refine goesL_ (some 26) rfl rfl Try.func42 (by kernel_rfl) rfl #[.agg #[.string t600,.int .i64 t601,.int .i64 t602,.int .i64 t603,.int .i64 t604,.int .i64 t605,.int .i64 t606,.int .i64 t607,.string t608,.string t609,.bool t610]] rfl (by (try simp only [List.map_toArray,List.map_cons,List.map_nil]);first | done | rfl|(simp only [List.length_drop,List.length_take];rfl)) ?_;(with_reducible refine (impl_ConnAgain.calls k t600 t601 t602 t603 t604 t605 t606 t607 t608 t609 t610 t611 t614 _ A10.out).mono ?_);rintro e w20 ⟨v612,rfl,ho0,hb⟩;refine ⟨_,rfl,?_⟩;have n0_:=aMk (Kd.R_elder' (by (with_reducible repeat (first|apply Kd.R_alloc|apply Kd.R_drewN|apply Kd.R_drew));exact HO598.out) (Kd.R_base ho0) hb);have n1_:=aMk (Kd.R_lower (Kd.R_new' ho0 (Kd.R_lt (by (with_reducible repeat (first|apply Kd.R_alloc|apply Kd.R_drewN|apply Kd.R_drew));exact HO598.out))) (below_size (by repeat (first|(with_reducible first|exact HB.out|apply bwA|apply bwN|apply bw1|refine below_set ?_ GE583.out)|exact HB.out))));have n2_:=aMk (blk_below (g:=gb583) (o:=.cells #[.string a0_0,.int .i64 a0_1,.int .i64 a0_2,.int .i64 a0_3,.int .i64 a0_4,.int .i64 a0_5,.int .i64 a0_6,.int .i64 a0_7,.string a0_8,.string a0_9,.bool a0_10] 31 (0,0)) (by (with_reducible repeat (first|refine bDn ?_ _|refine bDr ?_|refine bAl ?_ _));exact BK583.out) hb);have n3_:=aMk (below_step (by repeat (first|(with_reducible first|exact HB.out|apply bwA|apply bwN|apply bw1|refine below_set ?_ GE583.out)|exact HB.out)) hb);clear HO598;clear BK583;clear HB;have HO598:=n0_;have HO613:=n1_;have BK583:=n2_;have HB:=n3_;clear n0_ n1_ n2_ n3_;(try clear hb);(try clear hb2);(try clear hk);(try clear hi);(try clear ho0)))
  (try simp only [Act.put,List.setIfInBounds_toArray,List.set_cons_zero,List.set_cons_succ])
  go_cut [37] (fun v37 wc => ∃ (kq : Nat) (x37_10 : Bool),v37 = .bool x37_10 ∧ Aside0 (laws_FnExactConnAgain.j0 kq t596 t599 t611 x37_10 a0_0 a0_1 a0_2 a0_3 a0_4 a0_5 a0_6 a0_7 a0_8 a0_9 a0_10 = some r) ∧ Aside0 (kq ≤ k) ∧ Aside0 (Kd.R k53 53 wc w.heap.size (fun k_ => some k_ ≠ (v612 : Value).ownBlock) v597 t596) ∧ Aside0 (Kd.R k53 53 wc w.heap.size (fun k_ => some k_ ≠ (v597 : Value).ownBlock) v612 t611) ∧ Aside0 (wc.heap[gb583]? = some (.cells #[.string a0_0,.int .i64 a0_1,.int .i64 a0_2,.int .i64 a0_3,.int .i64 a0_4,.int .i64 a0_5,.int .i64 a0_6,.int .i64 a0_7,.string a0_8,.string a0_9,.bool a0_10] 31 (0,0))) ∧ Aside0 (Below w.heap.size w wc))
  case first =>
   have H:=HC11.out
   clear HC11
   replace H:=Option.bind_eq_some_iff.mp H
   obtain ⟨t615,A210,H⟩:=H
   replace H : (if t615 = true then (laws_FnExactConnAgain.j0 k t596 t599 t611 (t614 != t599) a0_0 a0_1 a0_2 a0_3 a0_4 a0_5 a0_6 a0_7 a0_8 a0_9 a0_10) else (laws_FnExactConnAgain.j0 k t596 t599 t611 true a0_0 a0_1 a0_2 a0_3 a0_4 a0_5 a0_6 a0_7 a0_8 a0_9 a0_10)) = some r:=H
   have A21:=aMk A210
   clear A210
   by_cases c22 : t615 = true
   ·subst c22
    have H1 : (laws_FnExactConnAgain.j0 k t596 t599 t611 (t614 != t599) a0_0 a0_1 a0_2 a0_3 a0_4 a0_5 a0_6 a0_7 a0_8 a0_9 a0_10) = some r:=by rw [if_pos rfl] at H;exact H
    clear H
    have H:=H1
    clear H1
    have H':=aMk H
    clear H
    obtain ⟨Ao23,co23,eo23⟩:=Kd.R_slice HO613.out
    subst eo23
    obtain ⟨Ao24,co24,eo24⟩:=Kd.R_slice HO598.out
    subst eo24
    go_wp2_with (first|((with_reducible refine gate_callee (f:=38) rfl ?_);refine goesL_ (some 31) rfl rfl Try.func38 (by kernel_rfl) rfl #[.slice Ao23 t611.length co23,.slice Ao24 t596.length co24] rfl (by (try simp only [List.map_toArray,List.map_cons,List.map_nil]);first | done | rfl|(simp only [List.length_drop,List.length_take];rfl)) ?_;(with_reducible refine (laws_eqSegmentS.calls k _ _ t611 _ _ t596 true _ ?side1 ?side2 ?side3 ?side4 A21.out).mono ?_);(case side1 => repeat (first|exact (Kd.R_reads' HO613.out).2.2|(with_reducible refine Kd.C_alloc ?_ _)|(with_reducible refine Kd.C_drewN ?_ _)|(with_reducible refine Kd.C_drew ?_)));(case side2 => exact (Kd.R_reads' HO613.out).2.1);(case side3 => repeat (first|exact (Kd.R_reads' HO598.out).2.2|(with_reducible refine Kd.C_alloc ?_ _)|(with_reducible refine Kd.C_drewN ?_ _)|(with_reducible refine Kd.C_drew ?_)));(case side4 => exact (Kd.R_reads' HO598.out).2.1);rintro e w25 ⟨rfl,hb⟩;refine ⟨_,rfl,?_⟩;have n0_:=aMk (Kd.R_below (by (with_reducible repeat (first|apply Kd.R_alloc|apply Kd.R_drewN|apply Kd.R_drew));exact HO598.out) hb);have n1_:=aMk (Kd.R_below (by (with_reducible repeat (first|apply Kd.R_alloc|apply Kd.R_drewN|apply Kd.R_drew));exact HO613.out) hb);have n2_:=aMk (blk_below (g:=gb583) (o:=.cells #[.string a0_0,.int .i64 a0_1,.int .i64 a0_2,.int .i64 a0_3,.int .i64 a0_4,.int .i64 a0_5,.int .i64 a0_6,.int .i64 a0_7,.string a0_8,.string a0_9,.bool a0_10] 31 (0,0)) (by (with_reducible repeat (first|refine bDn ?_ _|refine bDr ?_|refine bAl ?_ _));exact BK583.out) hb);have n3_:=aMk (below_step (by repeat (first|(with_reducible first|exact HB.out|apply bwA|apply bwN|apply bw1|refine below_set ?_ GE583.out)|exact HB.out)) hb);clear HO598;clear HO613;clear BK583;clear HB;have HO598:=n0_;have HO613:=n1_;have BK583:=n2_;have HB:=n3_;clear n0_ n1_ n2_ n3_;(try clear hb);(try clear hb2);(try clear hk);(try clear hi)))
    go_meet
    case rel => exact ⟨_,((t614 != t599)),(by first | rfl|(simp;done)|(simp [*];done)|(simp [ne_nil_b];done)|(simp [ne_nil_b, *];done)),H',⟨by first | omega|exact Nat.le_refl _⟩,⟨by (with_reducible repeat (first|apply Kd.R_alloc|apply Kd.R_drewN|apply Kd.R_drew));exact Kd.R_mono HO598.out (fun _ hk => hk.2)⟩,⟨by (with_reducible repeat (first|apply Kd.R_alloc|apply Kd.R_drewN|apply Kd.R_drew));exact Kd.R_mono HO613.out (fun _ hk => hk.2)⟩,⟨by (with_reducible repeat (first|refine bDn ?_ _|refine bDr ?_|refine bAl ?_ _));exact BK583.out⟩,⟨by repeat (first|(with_reducible first|exact HB.out|apply bwA|apply bwN|apply bw1|refine below_set ?_ GE583.out)|exact HB.out)⟩⟩
   ·replace c22:=Bool.eq_false_iff.mpr c22
    subst c22
    have H1 : (laws_FnExactConnAgain.j0 k t596 t599 t611 true a0_0 a0_1 a0_2 a0_3 a0_4 a0_5 a0_6 a0_7 a0_8 a0_9 a0_10) = some r:=by rw [if_neg (show ¬ (false = true) by decide)] at H;exact H
    clear H
    have H:=H1
    clear H1
    have H':=aMk H
    clear H
    obtain ⟨Ao26,co26,eo26⟩:=Kd.R_slice HO613.out
    subst eo26
    obtain ⟨Ao27,co27,eo27⟩:=Kd.R_slice HO598.out
    subst eo27
    go_wp2_with (first|((with_reducible refine gate_callee (f:=38) rfl ?_);refine goesL_ (some 31) rfl rfl Try.func38 (by kernel_rfl) rfl #[.slice Ao26 t611.length co26,.slice Ao27 t596.length co27] rfl (by (try simp only [List.map_toArray,List.map_cons,List.map_nil]);first | done | rfl|(simp only [List.length_drop,List.length_take];rfl)) ?_;(with_reducible refine (laws_eqSegmentS.calls k _ _ t611 _ _ t596 false _ ?side1 ?side2 ?side3 ?side4 A21.out).mono ?_);(case side1 => repeat (first|exact (Kd.R_reads' HO613.out).2.2|(with_reducible refine Kd.C_alloc ?_ _)|(with_reducible refine Kd.C_drewN ?_ _)|(with_reducible refine Kd.C_drew ?_)));(case side2 => exact (Kd.R_reads' HO613.out).2.1);(case side3 => repeat (first|exact (Kd.R_reads' HO598.out).2.2|(with_reducible refine Kd.C_alloc ?_ _)|(with_reducible refine Kd.C_drewN ?_ _)|(with_reducible refine Kd.C_drew ?_)));(case side4 => exact (Kd.R_reads' HO598.out).2.1);rintro e w28 ⟨rfl,hb⟩;refine ⟨_,rfl,?_⟩;have n0_:=aMk (Kd.R_below (by (with_reducible repeat (first|apply Kd.R_alloc|apply Kd.R_drewN|apply Kd.R_drew));exact HO598.out) hb);have n1_:=aMk (Kd.R_below (by (with_reducible repeat (first|apply Kd.R_alloc|apply Kd.R_drewN|apply Kd.R_drew));exact HO613.out) hb);have n2_:=aMk (blk_below (g:=gb583) (o:=.cells #[.string a0_0,.int .i64 a0_1,.int .i64 a0_2,.int .i64 a0_3,.int .i64 a0_4,.int .i64 a0_5,.int .i64 a0_6,.int .i64 a0_7,.string a0_8,.string a0_9,.bool a0_10] 31 (0,0)) (by (with_reducible repeat (first|refine bDn ?_ _|refine bDr ?_|refine bAl ?_ _));exact BK583.out) hb);have n3_:=aMk (below_step (by repeat (first|(with_reducible first|exact HB.out|apply bwA|apply bwN|apply bw1|refine below_set ?_ GE583.out)|exact HB.out)) hb);clear HO598;clear HO613;clear BK583;clear HB;have HO598:=n0_;have HO613:=n1_;have BK583:=n2_;have HB:=n3_;clear n0_ n1_ n2_ n3_;(try clear hb);(try clear hb2);(try clear hk);(try clear hi)))
    go_meet
    case rel => exact ⟨_,(true),(by first | rfl|(simp;done)|(simp [*];done)|(simp [ne_nil_b];done)|(simp [ne_nil_b, *];done)),H',⟨by first | omega|exact Nat.le_refl _⟩,⟨by (with_reducible repeat (first|apply Kd.R_alloc|apply Kd.R_drewN|apply Kd.R_drew));exact Kd.R_mono HO598.out (fun _ hk => hk.2)⟩,⟨by (with_reducible repeat (first|apply Kd.R_alloc|apply Kd.R_drewN|apply Kd.R_drew));exact Kd.R_mono HO613.out (fun _ hk => hk.2)⟩,⟨by (with_reducible repeat (first|refine bDn ?_ _|refine bDr ?_|refine bAl ?_ _));exact BK583.out⟩,⟨by repeat (first|(with_reducible first|exact HB.out|apply bwA|apply bwN|apply bw1|refine below_set ?_ GE583.out)|exact HB.out)⟩⟩
  case rest =>
   clear HC11
   try clear c1
   try clear c2
   try clear p2
   try clear c3
   try clear c3b0
   try clear c4
   try clear c10
   try clear c22
   try clear c24
   try clear hcz13_0
   try clear hcz13_1
   try clear hcz13_10
   try clear hcz13_2
   try clear hcz13_3
   try clear hcz13_4
   try clear hcz13_5
   try clear hcz13_6
   try clear hcz13_7
   try clear hcz13_8
   try clear hcz13_9
   try clear hcz15_0
   try clear hcz15_1
   try clear hcz15_10
   try clear hcz15_2
   try clear hcz15_3
   try clear hcz15_4
   try clear hcz15_5
   try clear hcz15_6
   try clear hcz15_7
   try clear hcz15_8
   try clear hcz15_9
   try clear hcz18_0
   try clear hcz18_1
   try clear hcz18_10
   try clear hcz18_2
   try clear hcz18_3
   try clear hcz18_4
   try clear hcz18_5
   try clear hcz18_6
   try clear hcz18_7
   try clear hcz18_8
   try clear hcz18_9
   try clear hcz5_0
   try clear hcz5_1
   try clear hcz5_10
   try clear hcz5_2
   try clear hcz5_3
   try clear hcz5_4
   try clear hcz5_5
   try clear hcz5_6
   try clear hcz5_7
   try clear hcz5_8
   try clear hcz5_9
   try clear hfz13_0
   try clear hfz13_1
   try clear hfz13_10
   try clear hfz13_2
   try clear hfz13_3
   try clear hfz13_4
   try clear hfz13_5
   try clear hfz13_6
   try clear hfz13_7
   try clear hfz13_8
   try clear hfz13_9
   try clear hfz15_0
   try clear hfz15_1
   try clear hfz15_10
   try clear hfz15_2
   try clear hfz15_3
   try clear hfz15_4
   try clear hfz15_5
   try clear hfz15_6
   try clear hfz15_7
   try clear hfz15_8
   try clear hfz15_9
   try clear hfz18_0
   try clear hfz18_1
   try clear hfz18_10
   try clear hfz18_2
   try clear hfz18_3
   try clear hfz18_4
   try clear hfz18_5
   try clear hfz18_6
   try clear hfz18_7
   try clear hfz18_8
   try clear hfz18_9
   try clear hfz5_0
   try clear hfz5_1
   try clear hfz5_10
   try clear hfz5_2
   try clear hfz5_3
   try clear hfz5_4
   try clear hfz5_5
   try clear hfz5_6
   try clear hfz5_7
   try clear hfz5_8
   try clear hfz5_9
   obtain ⟨kq,x37_10,rfl,HA,HJ10,HO_4,HO_6,BK583,HB⟩:=hcut
   cases kq with
   | zero => exact absurd HA.out (by simp [laws_FnExactConnAgain.j0])
   | succ kj10 =>
    have H:=HA.out
    clear HA
    simp only [laws_FnExactConnAgain.j0] at H
    by_cases c29 : x37_10 = true
    ·subst c29
     have H1 : (some false) = some r:=by rw [if_pos rfl] at H;exact H
     clear H
     have H:=H1
     clear H1
     obtain rfl:=Option.some.inj H
     go_wp2
     go_ret
     exact ⟨by first | rfl|(simp [errW_none,errW_some] <;> rfl)|(simp [*,errW_none,errW_some] <;> rfl),by repeat (first|(with_reducible first|exact HB.out|apply bwA|apply bwN|apply bw1|refine below_set ?_ GE583.out)|exact HB.out)⟩
    ·replace c29:=Bool.eq_false_iff.mpr c29
     subst c29
     have H1 : ((laws_markSegmentS.f kj10 t611 1).bind fun bt616 => ((laws_heldSegmentS.f kj10 bt616.2 1).bind fun t618 => (if t618 < 0 then (some false) else (if t618 = bt616.1 then ((laws_toConn.f a0_0 a0_1 a0_2 a0_3 a0_4 a0_5 a0_6 a0_7 a0_8 a0_9 a0_10).bind fun bt619 => ((impl_ConnAgain.f kj10 bt619.1 bt619.2.1 bt619.2.2.1 bt619.2.2.2.1 bt619.2.2.2.2.1 bt619.2.2.2.2.2.1 bt619.2.2.2.2.2.2.1 bt619.2.2.2.2.2.2.2.1 bt619.2.2.2.2.2.2.2.2.1 bt619.2.2.2.2.2.2.2.2.2.1 bt619.2.2.2.2.2.2.2.2.2.2).bind fun bt630 => ((laws_eqSegmentS.f kj10 bt630.1 t596).bind fun t634 => (if t634 = true then (laws_FnExactConnAgain.j1 kj10 bt616.2 bt616.1 (bt630.2 != t599)) else (laws_FnExactConnAgain.j1 kj10 bt616.2 bt616.1 true))))) else (some false))))) = some r:=by rw [if_neg (show ¬ (false = true) by decide)] at H;exact H
     clear H
     have H:=H1
     clear H1
     replace H:=Option.bind_eq_some_iff.mp H
     obtain ⟨⟨t616,t617⟩,A300,H⟩:=H
     replace H : ((laws_heldSegmentS.f kj10 t617 1).bind fun t618 => (if t618 < 0 then (some false) else (if t618 = t616 then ((laws_toConn.f a0_0 a0_1 a0_2 a0_3 a0_4 a0_5 a0_6 a0_7 a0_8 a0_9 a0_10).bind fun bt619 => ((impl_ConnAgain.f kj10 bt619.1 bt619.2.1 bt619.2.2.1 bt619.2.2.2.1 bt619.2.2.2.2.1 bt619.2.2.2.2.2.1 bt619.2.2.2.2.2.2.1 bt619.2.2.2.2.2.2.2.1 bt619.2.2.2.2.2.2.2.2.1 bt619.2.2.2.2.2.2.2.2.2.1 bt619.2.2.2.2.2.2.2.2.2.2).bind fun bt630 => ((laws_eqSegmentS.f kj10 bt630.1 t596).bind fun t634 => (if t634 = true then (laws_FnExactConnAgain.j1 kj10 t617 t616 (bt630.2 != t599)) else (laws_FnExactConnAgain.j1 kj10 t617 t616 true))))) else (some false)))) = some r:=H
     have A30:=aMk A300
     clear A300
     replace H:=Option.bind_eq_some_iff.mp H
     obtain ⟨t618,A310,H⟩:=H
     replace H : (if t618 < 0 then (some false) else (if t618 = t616 then ((laws_toConn.f a0_0 a0_1 a0_2 a0_3 a0_4 a0_5 a0_6 a0_7 a0_8 a0_9 a0_10).bind fun bt619 => ((impl_ConnAgain.f kj10 bt619.1 bt619.2.1 bt619.2.2.1 bt619.2.2.2.1 bt619.2.2.2.2.1 bt619.2.2.2.2.2.1 bt619.2.2.2.2.2.2.1 bt619.2.2.2.2.2.2.2.1 bt619.2.2.2.2.2.2.2.2.1 bt619.2.2.2.2.2.2.2.2.2.1 bt619.2.2.2.2.2.2.2.2.2.2).bind fun bt630 => ((laws_eqSegmentS.f kj10 bt630.1 t596).bind fun t634 => (if t634 = true then (laws_FnExactConnAgain.j1 kj10 t617 t616 (bt630.2 != t599)) else (laws_FnExactConnAgain.j1 kj10 t617 t616 true))))) else (some false))) = some r:=H
     have A31:=aMk A310
     clear A310
     by_cases c32 : t618 < 0
     ·rw [if_pos c32] at H
      have c32b0 : decide (t618 < 0) = true:=decide_eq_true c32
      clear c32
      obtain rfl:=Option.some.inj H
      obtain ⟨Ao33,co33,eo33⟩:=Kd.R_slice HO_6.out
      subst eo33
      go_wp2_with (first|((with_reducible refine gate_callee (f:=39) rfl ?_);refine goesL_ (some 40) rfl rfl Try.func39 (by kernel_rfl) rfl #[.slice Ao33 t611.length co33,.int .i64 1] rfl (by (try simp only [List.map_toArray,List.map_cons,List.map_nil]);first | done | rfl|(simp only [List.length_drop,List.length_take];rfl)) ?_;(with_reducible refine (laws_markSegmentS.calls kj10 (fun k_ => some k_ = (.slice Ao33 t611.length co33 : Value).ownBlock) (.slice Ao33 t611.length co33) t611 1 t616 t617 w _ ?side1 ?side2 A30.out).mono ?_);(case side1 => repeat (first|(with_reducible first|exact HB.out|apply bwA|apply bwN|apply bw1|refine below_set ?_ GE583.out)|exact HB.out));(case side2 => exact Kd.R_tight rfl HO_6.out);rintro e w34 ⟨rfl,hy0,hb,hkp⟩;refine ⟨_,rfl,?_⟩;have n0_:=aMk (Kd.R_mono (ok':=fun k_ => some k_ ≠ (.slice Ao33 t611.length co33 : Value).ownBlock) (Kd.R_keptB (HO_4.out) hkp (fun k_ hk_ hs_ => (hk_) hs_)) (fun k_ hk_ => hk_.1));have n1_:=aMk (Kd.R_reok rfl hy0 (fun k_ e_ => HO_6.out.1 k_ e_));have n2_:=aMk (blk_kept (by (with_reducible repeat (first|refine bDn ?_ _|refine bDr ?_|refine bAl ?_ _));exact BK583.out) hkp (fun hs_ => (fun e_ => (Kd.R_ne HO_6.out BK583.out (by decide)) e_) hs_));have n3_:=aMk (hb);clear HO_4;clear HO_6;clear BK583;clear HB;have HO_4:=n0_;have HO_6:=n1_;have BK583:=n2_;have HB:=n3_;clear n0_ n1_ n2_ n3_;(try clear hb);(try clear hkp);(try clear hy0))|((with_reducible refine gate_callee (f:=40) rfl ?_);refine goesL_ (some 43) rfl rfl Try.func40 (by kernel_rfl) rfl #[.slice Ao33 t617.length co33,.int .i64 1] rfl (by (try simp only [List.map_toArray,List.map_cons,List.map_nil]);first | done|(rw [show t617.length = t611.length from (Kd.R_reads' HO_6.out).1.symm] <;> rfl) | rfl|(simp only [List.length_drop,List.length_take];rfl)) ?_;(with_reducible refine (laws_heldSegmentS.calls kj10 _ _ t617 1 t618 _ ?side1 ?side2 A31.out).mono ?_);(case side1 => repeat (first|exact (Kd.R_reads' HO_6.out).2.2|(with_reducible refine Kd.C_alloc ?_ _)|(with_reducible refine Kd.C_drewN ?_ _)|(with_reducible refine Kd.C_drew ?_)));(case side2 => rw [show t617.length = t611.length from (Kd.R_reads' HO_6.out).1.symm];exact (Kd.R_reads' HO_6.out).2.1);rintro e w35 ⟨rfl,hb⟩;refine ⟨_,rfl,?_⟩;have n0_:=aMk (Kd.R_below (by (with_reducible repeat (first|apply Kd.R_alloc|apply Kd.R_drewN|apply Kd.R_drew));exact HO_4.out) hb);have n1_:=aMk (Kd.R_below (by (with_reducible repeat (first|apply Kd.R_alloc|apply Kd.R_drewN|apply Kd.R_drew));exact HO_6.out) hb);have n2_:=aMk (blk_below (g:=gb583) (o:=.cells #[.string a0_0,.int .i64 a0_1,.int .i64 a0_2,.int .i64 a0_3,.int .i64 a0_4,.int .i64 a0_5,.int .i64 a0_6,.int .i64 a0_7,.string a0_8,.string a0_9,.bool a0_10] 31 (0,0)) (by (with_reducible repeat (first|refine bDn ?_ _|refine bDr ?_|refine bAl ?_ _));exact BK583.out) hb);have n3_:=aMk (below_step (by repeat (first|(with_reducible first|exact HB.out|apply bwA|apply bwN|apply bw1|refine below_set ?_ GE583.out)|exact HB.out)) hb);clear HO_4;clear HO_6;clear BK583;clear HB;have HO_4:=n0_;have HO_6:=n1_;have BK583:=n2_;have HB:=n3_;clear n0_ n1_ n2_ n3_;(try clear hb);(try clear hb2);(try clear hk);(try clear hi)))
      go_ret
      exact ⟨by first | rfl|(simp [errW_none,errW_some] <;> rfl)|(simp [*,errW_none,errW_some] <;> rfl),by repeat (first|(with_reducible first|exact HB.out|apply bwA|apply bwN|apply bw1|refine below_set ?_ GE583.out)|exact HB.out)⟩
     ·rw [if_neg c32] at H
      have c32b0 : decide (t618 < 0) = false:=decide_eq_false c32
      clear c32
      by_cases c36 : t618 = t616
      ·rw [if_pos c36] at H
       have c36b0 : (t618 == t616) = true:=beq_iff_eq.mpr c36
       have c36b1 : (t618 != t616) = false:=bne_eq_false_iff_eq.mpr c36
       clear c36
       replace H:=Option.bind_eq_some_iff.mp H
       obtain ⟨⟨t619,t620,t621,t622,t623,t624,t625,t626,t627,t628,t629⟩,A370,H⟩:=H
       replace H : ((impl_ConnAgain.f kj10 t619 t620 t621 t622 t623 t624 t625 t626 t627 t628 t629).bind fun bt630 => ((laws_eqSegmentS.f kj10 bt630.1 t596).bind fun t634 => (if t634 = true then (laws_FnExactConnAgain.j1 kj10 t617 t616 (bt630.2 != t599)) else (laws_FnExactConnAgain.j1 kj10 t617 t616 true)))) = some r:=H
       have A37:=aMk A370
       clear A370
       replace H:=Option.bind_eq_some_iff.mp H
       obtain ⟨⟨t630,t633⟩,A380,H⟩:=H
       replace H : ((laws_eqSegmentS.f kj10 t630 t596).bind fun t634 => (if t634 = true then (laws_FnExactConnAgain.j1 kj10 t617 t616 (t633 != t599)) else (laws_FnExactConnAgain.j1 kj10 t617 t616 true))) = some r:=H
       have A38:=aMk A380
       clear A380
       have HC39:=aMk H
       clear H
       obtain ⟨Ao40,co40,eo40⟩:=Kd.R_slice HO_6.out
       subst eo40
       go_upto_region 18 with (first|((with_reducible refine gate_callee (f:=39) rfl ?_);refine goesL_ (some 40) rfl rfl Try.func39 (by kernel_rfl) rfl #[.slice Ao40 t611.length co40,.int .i64 1] rfl (by (try simp only [List.map_toArray,List.map_cons,List.map_nil]);first | done | rfl|(simp only [List.length_drop,List.length_take];rfl)) ?_;(with_reducible refine (laws_markSegmentS.calls kj10 (fun k_ => some k_ = (.slice Ao40 t611.length co40 : Value).ownBlock) (.slice Ao40 t611.length co40) t611 1 t616 t617 w _ ?side1 ?side2 A30.out).mono ?_);(case side1 => repeat (first|(with_reducible first|exact HB.out|apply bwA|apply bwN|apply bw1|refine below_set ?_ GE583.out)|exact HB.out));(case side2 => exact Kd.R_tight rfl HO_6.out);rintro e w41 ⟨rfl,hy0,hb,hkp⟩;refine ⟨_,rfl,?_⟩;have n0_:=aMk (Kd.R_mono (ok':=fun k_ => some k_ ≠ (.slice Ao40 t611.length co40 : Value).ownBlock) (Kd.R_keptB (HO_4.out) hkp (fun k_ hk_ hs_ => (hk_) hs_)) (fun k_ hk_ => hk_.1));have n1_:=aMk (Kd.R_reok rfl hy0 (fun k_ e_ => HO_6.out.1 k_ e_));have n2_:=aMk (blk_kept (by (with_reducible repeat (first|refine bDn ?_ _|refine bDr ?_|refine bAl ?_ _));exact BK583.out) hkp (fun hs_ => (fun e_ => (Kd.R_ne HO_6.out BK583.out (by decide)) e_) hs_));have n3_:=aMk (hb);clear HO_4;clear HO_6;clear BK583;clear HB;have HO_4:=n0_;have HO_6:=n1_;have BK583:=n2_;have HB:=n3_;clear n0_ n1_ n2_ n3_;(try clear hb);(try clear hkp);(try clear hy0))|((with_reducible refine gate_callee (f:=40) rfl ?_);refine goesL_ (some 43) rfl rfl Try.func40 (by kernel_rfl) rfl #[.slice Ao40 t617.length co40,.int .i64 1] rfl (by (try simp only [List.map_toArray,List.map_cons,List.map_nil]);first | done|(rw [show t617.length = t611.length from (Kd.R_reads' HO_6.out).1.symm] <;> rfl) | rfl|(simp only [List.length_drop,List.length_take];rfl)) ?_;(with_reducible refine (laws_heldSegmentS.calls kj10 _ _ t617 1 t618 _ ?side1 ?side2 A31.out).mono ?_);(case side1 => repeat (first|exact (Kd.R_reads' HO_6.out).2.2|(with_reducible refine Kd.C_alloc ?_ _)|(with_reducible refine Kd.C_drewN ?_ _)|(with_reducible refine Kd.C_drew ?_)));(case side2 => rw [show t617.length = t611.length from (Kd.R_reads' HO_6.out).1.symm];exact (Kd.R_reads' HO_6.out).2.1);rintro e w42 ⟨rfl,hb⟩;refine ⟨_,rfl,?_⟩;have n0_:=aMk (Kd.R_below (by (with_reducible repeat (first|apply Kd.R_alloc|apply Kd.R_drewN|apply Kd.R_drew));exact HO_4.out) hb);have n1_:=aMk (Kd.R_below (by (with_reducible repeat (first|apply Kd.R_alloc|apply Kd.R_drewN|apply Kd.R_drew));exact HO_6.out) hb);have n2_:=aMk (blk_below (g:=gb583) (o:=.cells #[.string a0_0,.int .i64 a0_1,.int .i64 a0_2,.int .i64 a0_3,.int .i64 a0_4,.int .i64 a0_5,.int .i64 a0_6,.int .i64 a0_7,.string a0_8,.string a0_9,.bool a0_10] 31 (0,0)) (by (with_reducible repeat (first|refine bDn ?_ _|refine bDr ?_|refine bAl ?_ _));exact BK583.out) hb);have n3_:=aMk (below_step (by repeat (first|(with_reducible first|exact HB.out|apply bwA|apply bwN|apply bw1|refine below_set ?_ GE583.out)|exact HB.out)) hb);clear HO_4;clear HO_6;clear BK583;clear HB;have HO_4:=n0_;have HO_6:=n1_;have BK583:=n2_;have HB:=n3_;clear n0_ n1_ n2_ n3_;(try clear hb);(try clear hb2);(try clear hk);(try clear hi);have hcz43_0 : w42.cell? ⟨gb583,0,none⟩ = some (.string a0_0):=(bCe BK583.out 0).trans rfl;have hcz43_1 : w42.cell? ⟨gb583,1,none⟩ = some (.int .i64 a0_1):=(bCe BK583.out 1).trans rfl;have hcz43_2 : w42.cell? ⟨gb583,2,none⟩ = some (.int .i64 a0_2):=(bCe BK583.out 2).trans rfl;have hcz43_3 : w42.cell? ⟨gb583,3,none⟩ = some (.int .i64 a0_3):=(bCe BK583.out 3).trans rfl;have hcz43_4 : w42.cell? ⟨gb583,4,none⟩ = some (.int .i64 a0_4):=(bCe BK583.out 4).trans rfl;have hcz43_5 : w42.cell? ⟨gb583,5,none⟩ = some (.int .i64 a0_5):=(bCe BK583.out 5).trans rfl;have hcz43_6 : w42.cell? ⟨gb583,6,none⟩ = some (.int .i64 a0_6):=(bCe BK583.out 6).trans rfl;have hcz43_7 : w42.cell? ⟨gb583,7,none⟩ = some (.int .i64 a0_7):=(bCe BK583.out 7).trans rfl;have hcz43_8 : w42.cell? ⟨gb583,8,none⟩ = some (.string a0_8):=(bCe BK583.out 8).trans rfl;have hcz43_9 : w42.cell? ⟨gb583,9,none⟩ = some (.string a0_9):=(bCe BK583.out 9).trans rfl;have hcz43_10 : w42.cell? ⟨gb583,10,none⟩ = some (.bool a0_10):=(bCe BK583.out 10).trans rfl;have hfz43_0:=bFr BK583.out 0;have hfz43_1:=bFr BK583.out 1;have hfz43_2:=bFr BK583.out 2;have hfz43_3:=bFr BK583.out 3;have hfz43_4:=bFr BK583.out 4;have hfz43_5:=bFr BK583.out 5;have hfz43_6:=bFr BK583.out 6;have hfz43_7:=bFr BK583.out 7;have hfz43_8:=bFr BK583.out 8;have hfz43_9:=bFr BK583.out 9;have hfz43_10:=bFr BK583.out 10)|((with_reducible refine gate_callee (f:=24) rfl ?_);refine goesL_ (some 51) rfl rfl Try.func24 (by kernel_rfl) rfl #[.agg #[.string a0_0,.int .i64 a0_1,.int .i64 a0_2,.int .i64 a0_3,.int .i64 a0_4,.int .i64 a0_5,.int .i64 a0_6,.int .i64 a0_7,.string a0_8,.string a0_9,.bool a0_10]] rfl (by (try simp only [List.map_toArray,List.map_cons,List.map_nil]);first | done | rfl|(simp only [List.length_drop,List.length_take];rfl)) ?_;(with_reducible refine (laws_toConn.calls a0_0 a0_1 a0_2 a0_3 a0_4 a0_5 a0_6 a0_7 a0_8 a0_9 a0_10 t619 t620 t621 t622 t623 t624 t625 t626 t627 t628 t629 _ A37.out).mono ?_);rintro e w44 ⟨rfl,hb⟩;refine ⟨_,rfl,?_⟩;have n0_:=aMk (Kd.R_below (by (with_reducible repeat (first|apply Kd.R_alloc|apply Kd.R_drewN|apply Kd.R_drew));exact HO_4.out) hb);have n1_:=aMk (Kd.R_below (by (with_reducible repeat (first|apply Kd.R_alloc|apply Kd.R_drewN|apply Kd.R_drew));exact HO_6.out) hb);have n2_:=aMk (blk_below (g:=gb583) (o:=.cells #[.string a0_0,.int .i64 a0_1,.int .i64 a0_2,.int .i64 a0_3,.int .i64 a0_4,.int .i64 a0_5,.int .i64 a0_6,.int .i64 a0_7,.string a0_8,.string a0_9,.bool a0_10] 31 (0,0)) (by (with_reducible repeat (first|refine bDn ?_ _|refine bDr ?_|refine bAl ?_ _));exact BK583.out) hb);have n3_:=aMk (below_step (by repeat (first|(with_reducible first|exact HB.out|apply bwA|apply bwN|apply bw1|refine below_set ?_ GE583.out)|exact HB.out)) hb);clear HO_4;clear HO_6;clear BK583;clear HB;have HO_4:=n0_;have HO_6:=n1_;have BK583:=n2_;have HB:=n3_;clear n0_ n1_ n2_ n3_;(try clear hb);(try clear hb2);(try clear hk);(try clear hi))|((with_reducible refine gate_callee (f:=42) rfl ?_);refine goesL_ (some 52) rfl rfl Try.func42 (by kernel_rfl) rfl #[.agg #[.string t619,.int .i64 t620,.int .i64 t621,.int .i64 t622,.int .i64 t623,.int .i64 t624,.int .i64 t625,.int .i64 t626,.string t627,.string t628,.bool t629]] rfl (by (try simp only [List.map_toArray,List.map_cons,List.map_nil]);first | done | rfl|(simp only [List.length_drop,List.length_take];rfl)) ?_;(with_reducible refine (impl_ConnAgain.calls kj10 t619 t620 t621 t622 t623 t624 t625 t626 t627 t628 t629 t630 t633 _ A38.out).mono ?_);rintro e w45 ⟨v631,rfl,ho0,hb⟩;refine ⟨_,rfl,?_⟩;have n0_:=aMk (Kd.R_elder' (by (with_reducible repeat (first|apply Kd.R_alloc|apply Kd.R_drewN|apply Kd.R_drew));exact HO_4.out) (Kd.R_base ho0) hb);have n1_:=aMk (Kd.R_elder' (by (with_reducible repeat (first|apply Kd.R_alloc|apply Kd.R_drewN|apply Kd.R_drew));exact HO_6.out) (Kd.R_base ho0) hb);have n2_:=aMk (Kd.R_lower (Kd.R_new' (Kd.R_new' ho0 (Kd.R_lt (by (with_reducible repeat (first|apply Kd.R_alloc|apply Kd.R_drewN|apply Kd.R_drew));exact HO_4.out))) (Kd.R_lt (by (with_reducible repeat (first|apply Kd.R_alloc|apply Kd.R_drewN|apply Kd.R_drew));exact HO_6.out))) (below_size (by repeat (first|(with_reducible first|exact HB.out|apply bwA|apply bwN|apply bw1|refine below_set ?_ GE583.out)|exact HB.out))));have n3_:=aMk (blk_below (g:=gb583) (o:=.cells #[.string a0_0,.int .i64 a0_1,.int .i64 a0_2,.int .i64 a0_3,.int .i64 a0_4,.int .i64 a0_5,.int .i64 a0_6,.int .i64 a0_7,.string a0_8,.string a0_9,.bool a0_10] 31 (0,0)) (by (with_reducible repeat (first|refine bDn ?_ _|refine bDr ?_|refine bAl ?_ _));exact BK583.out) hb);have n4_:=aMk (below_step (by repeat (first|(with_reducible first|exact HB.out|apply bwA|apply bwN|apply bw1|refine below_set ?_ GE583.out)|exact HB.out)) hb);clear HO_4;clear HO_6;clear BK583;clear HB;have HO_4:=n0_;have HO_6:=n1_;have HO632:=n2_;have BK583:=n3_;have HB:=n4_;clear n0_ n1_ n2_ n3_ n4_;(try clear hb);(try clear hb2);(try clear hk);(try clear hi);(try clear ho0)))
       (try simp only [Act.put,List.setIfInBounds_toArray,List.set_cons_zero,List.set_cons_succ])
       go_cut [63] (fun v63 wc => ∃ (kq : Nat) (x63_38 : Bool),v63 = .bool x63_38 ∧ Aside0 (laws_FnExactConnAgain.j1 kq t617 t616 x63_38 = some r) ∧ Aside0 (kq ≤ kj10) ∧ Aside0 (Kd.R k53 53 wc w.heap.size (fun _ => True) (.slice Ao40 t611.length co40) t617) ∧ Aside0 (wc.heap[gb583]? = some (.cells #[.string a0_0,.int .i64 a0_1,.int .i64 a0_2,.int .i64 a0_3,.int .i64 a0_4,.int .i64 a0_5,.int .i64 a0_6,.int .i64 a0_7,.string a0_8,.string a0_9,.bool a0_10] 31 (0,0))) ∧ Aside0 (Below w.heap.size w wc))
       case first =>
        have H:=HC39.out
        clear HC39
        replace H:=Option.bind_eq_some_iff.mp H
        obtain ⟨t634,A460,H⟩:=H
        replace H : (if t634 = true then (laws_FnExactConnAgain.j1 kj10 t617 t616 (t633 != t599)) else (laws_FnExactConnAgain.j1 kj10 t617 t616 true)) = some r:=H
        have A46:=aMk A460
        clear A460
        by_cases c47 : t634 = true
        ·subst c47
         have H1 : (laws_FnExactConnAgain.j1 kj10 t617 t616 (t633 != t599)) = some r:=by rw [if_pos rfl] at H;exact H
         clear H
         have H:=H1
         clear H1
         have H':=aMk H
         clear H
         obtain ⟨Ao48,co48,eo48⟩:=Kd.R_slice HO632.out
         subst eo48
         obtain ⟨Ao49,co49,eo49⟩:=Kd.R_slice HO_4.out
         subst eo49
         go_wp2_with (first|((with_reducible refine gate_callee (f:=38) rfl ?_);refine goesL_ (some 57) rfl rfl Try.func38 (by kernel_rfl) rfl #[.slice Ao48 t630.length co48,.slice Ao49 t596.length co49] rfl (by (try simp only [List.map_toArray,List.map_cons,List.map_nil]);first | done | rfl|(simp only [List.length_drop,List.length_take];rfl)) ?_;(with_reducible refine (laws_eqSegmentS.calls kj10 _ _ t630 _ _ t596 true _ ?side1 ?side2 ?side3 ?side4 A46.out).mono ?_);(case side1 => repeat (first|exact (Kd.R_reads' HO632.out).2.2|(with_reducible refine Kd.C_alloc ?_ _)|(with_reducible refine Kd.C_drewN ?_ _)|(with_reducible refine Kd.C_drew ?_)));(case side2 => exact (Kd.R_reads' HO632.out).2.1);(case side3 => repeat (first|exact (Kd.R_reads' HO_4.out).2.2|(with_reducible refine Kd.C_alloc ?_ _)|(with_reducible refine Kd.C_drewN ?_ _)|(with_reducible refine Kd.C_drew ?_)));(case side4 => exact (Kd.R_reads' HO_4.out).2.1);rintro e w50 ⟨rfl,hb⟩;refine ⟨_,rfl,?_⟩;have n0_:=aMk (Kd.R_below (by (with_reducible repeat (first|apply Kd.R_alloc|apply Kd.R_drewN|apply Kd.R_drew));exact HO_4.out) hb);have n1_:=aMk (Kd.R_below (by (with_reducible repeat (first|apply Kd.R_alloc|apply Kd.R_drewN|apply Kd.R_drew));exact HO_6.out) hb);have n2_:=aMk (Kd.R_below (by (with_reducible repeat (first|apply Kd.R_alloc|apply Kd.R_drewN|apply Kd.R_drew));exact HO632.out) hb);have n3_:=aMk (blk_below (g:=gb583) (o:=.cells #[.string a0_0,.int .i64 a0_1,.int .i64 a0_2,.int .i64 a0_3,.int .i64 a0_4,.int .i64 a0_5,.int .i64 a0_6,.int .i64 a0_7,.string a0_8,.string a0_9,.bool a0_10] 31 (0,0)) (by (with_reducible repeat (first|refine bDn ?_ _|refine bDr ?_|refine bAl ?_ _));exact BK583.out) hb);have n4_:=aMk (below_step (by repeat (first|(with_reducible first|exact HB.out|apply bwA|apply bwN|apply bw1|refine below_set ?_ GE583.out)|exact HB.out)) hb);clear HO_4;clear HO_6;clear HO632;clear BK583;clear HB;have HO_4:=n0_;have HO_6:=n1_;have HO632:=n2_;have BK583:=n3_;have HB:=n4_;clear n0_ n1_ n2_ n3_ n4_;(try clear hb);(try clear hb2);(try clear hk);(try clear hi)))
         go_meet
         case rel => exact ⟨_,((t633 != t599)),(by first | rfl|(simp;done)|(simp [*];done)|(simp [ne_nil_b];done)|(simp [ne_nil_b, *];done)),H',⟨by have:=HJ10.out;first | omega|exact Nat.le_refl _⟩,⟨by (with_reducible repeat (first|apply Kd.R_alloc|apply Kd.R_drewN|apply Kd.R_drew));exact Kd.R_mono HO_6.out (fun _ hk => trivial)⟩,⟨by (with_reducible repeat (first|refine bDn ?_ _|refine bDr ?_|refine bAl ?_ _));exact BK583.out⟩,⟨by repeat (first|(with_reducible first|exact HB.out|apply bwA|apply bwN|apply bw1|refine below_set ?_ GE583.out)|exact HB.out)⟩⟩
        ·replace c47:=Bool.eq_false_iff.mpr c47
         subst c47
         have H1 : (laws_FnExactConnAgain.j1 kj10 t617 t616 true) = some r:=by rw [if_neg (show ¬ (false = true) by decide)] at H;exact H
         clear H
         have H:=H1
         clear H1
         have H':=aMk H
         clear H
         obtain ⟨Ao51,co51,eo51⟩:=Kd.R_slice HO632.out
         subst eo51
         obtain ⟨Ao52,co52,eo52⟩:=Kd.R_slice HO_4.out
         subst eo52
         go_wp2_with (first|((with_reducible refine gate_callee (f:=38) rfl ?_);refine goesL_ (some 57) rfl rfl Try.func38 (by kernel_rfl) rfl #[.slice Ao51 t630.length co51,.slice Ao52 t596.length co52] rfl (by (try simp only [List.map_toArray,List.map_cons,List.map_nil]);first | done | rfl|(simp only [List.length_drop,List.length_take];rfl)) ?_;(with_reducible refine (laws_eqSegmentS.calls kj10 _ _ t630 _ _ t596 false _ ?side1 ?side2 ?side3 ?side4 A46.out).mono ?_);(case side1 => repeat (first|exact (Kd.R_reads' HO632.out).2.2|(with_reducible refine Kd.C_alloc ?_ _)|(with_reducible refine Kd.C_drewN ?_ _)|(with_reducible refine Kd.C_drew ?_)));(case side2 => exact (Kd.R_reads' HO632.out).2.1);(case side3 => repeat (first|exact (Kd.R_reads' HO_4.out).2.2|(with_reducible refine Kd.C_alloc ?_ _)|(with_reducible refine Kd.C_drewN ?_ _)|(with_reducible refine Kd.C_drew ?_)));(case side4 => exact (Kd.R_reads' HO_4.out).2.1);rintro e w53 ⟨rfl,hb⟩;refine ⟨_,rfl,?_⟩;have n0_:=aMk (Kd.R_below (by (with_reducible repeat (first|apply Kd.R_alloc|apply Kd.R_drewN|apply Kd.R_drew));exact HO_4.out) hb);have n1_:=aMk (Kd.R_below (by (with_reducible repeat (first|apply Kd.R_alloc|apply Kd.R_drewN|apply Kd.R_drew));exact HO_6.out) hb);have n2_:=aMk (Kd.R_below (by (with_reducible repeat (first|apply Kd.R_alloc|apply Kd.R_drewN|apply Kd.R_drew));exact HO632.out) hb);have n3_:=aMk (blk_below (g:=gb583) (o:=.cells #[.string a0_0,.int .i64 a0_1,.int .i64 a0_2,.int .i64 a0_3,.int .i64 a0_4,.int .i64 a0_5,.int .i64 a0_6,.int .i64 a0_7,.string a0_8,.string a0_9,.bool a0_10] 31 (0,0)) (by (with_reducible repeat (first|refine bDn ?_ _|refine bDr ?_|refine bAl ?_ _));exact BK583.out) hb);have n4_:=aMk (below_step (by repeat (first|(with_reducible first|exact HB.out|apply bwA|apply bwN|apply bw1|refine below_set ?_ GE583.out)|exact HB.out)) hb);clear HO_4;clear HO_6;clear HO632;clear BK583;clear HB;have HO_4:=n0_;have HO_6:=n1_;have HO632:=n2_;have BK583:=n3_;have HB:=n4_;clear n0_ n1_ n2_ n3_ n4_;(try clear hb);(try clear hb2);(try clear hk);(try clear hi)))
         go_meet
         case rel => exact ⟨_,(true),(by first | rfl|(simp;done)|(simp [*];done)|(simp [ne_nil_b];done)|(simp [ne_nil_b, *];done)),H',⟨by have:=HJ10.out;first | omega|exact Nat.le_refl _⟩,⟨by (with_reducible repeat (first|apply Kd.R_alloc|apply Kd.R_drewN|apply Kd.R_drew));exact Kd.R_mono HO_6.out (fun _ hk => trivial)⟩,⟨by (with_reducible repeat (first|refine bDn ?_ _|refine bDr ?_|refine bAl ?_ _));exact BK583.out⟩,⟨by repeat (first|(with_reducible first|exact HB.out|apply bwA|apply bwN|apply bw1|refine below_set ?_ GE583.out)|exact HB.out)⟩⟩
       case rest =>
        clear HC39
        try clear c1
        try clear c2
        try clear p2
        try clear c3
        try clear c3b0
        try clear c4
        try clear c10
        try clear c22
        try clear c24
        try clear c29
        try clear c32
        try clear c32b0
        try clear c36
        try clear c36b0
        try clear c36b1
        try clear c38
        try clear c39
        try clear c40
        try clear c41
        try clear c42
        try clear c47
        try clear hcz13_0
        try clear hcz13_1
        try clear hcz13_10
        try clear hcz13_2
        try clear hcz13_3
        try clear hcz13_4
        try clear hcz13_5
        try clear hcz13_6
        try clear hcz13_7
        try clear hcz13_8
        try clear hcz13_9
        try clear hcz15_0
        try clear hcz15_1
        try clear hcz15_10
        try clear hcz15_2
        try clear hcz15_3
        try clear hcz15_4
        try clear hcz15_5
        try clear hcz15_6
        try clear hcz15_7
        try clear hcz15_8
        try clear hcz15_9
        try clear hcz18_0
        try clear hcz18_1
        try clear hcz18_10
        try clear hcz18_2
        try clear hcz18_3
        try clear hcz18_4
        try clear hcz18_5
        try clear hcz18_6
        try clear hcz18_7
        try clear hcz18_8
        try clear hcz18_9
        try clear hcz43_0
        try clear hcz43_1
        try clear hcz43_10
        try clear hcz43_2
        try clear hcz43_3
        try clear hcz43_4
        try clear hcz43_5
        try clear hcz43_6
        try clear hcz43_7
        try clear hcz43_8
        try clear hcz43_9
        try clear hcz5_0
        try clear hcz5_1
        try clear hcz5_10
        try clear hcz5_2
        try clear hcz5_3
        try clear hcz5_4
        try clear hcz5_5
        try clear hcz5_6
        try clear hcz5_7
        try clear hcz5_8
        try clear hcz5_9
        try clear hfz13_0
        try clear hfz13_1
        try clear hfz13_10
        try clear hfz13_2
        try clear hfz13_3
        try clear hfz13_4
        try clear hfz13_5
        try clear hfz13_6
        try clear hfz13_7
        try clear hfz13_8
        try clear hfz13_9
        try clear hfz15_0
        try clear hfz15_1
        try clear hfz15_10
        try clear hfz15_2
        try clear hfz15_3
        try clear hfz15_4
        try clear hfz15_5
        try clear hfz15_6
        try clear hfz15_7
        try clear hfz15_8
        try clear hfz15_9
        try clear hfz18_0
        try clear hfz18_1
        try clear hfz18_10
        try clear hfz18_2
        try clear hfz18_3
        try clear hfz18_4
        try clear hfz18_5
        try clear hfz18_6
        try clear hfz18_7
        try clear hfz18_8
        try clear hfz18_9
        try clear hfz43_0
        try clear hfz43_1
        try clear hfz43_10
        try clear hfz43_2
        try clear hfz43_3
        try clear hfz43_4
        try clear hfz43_5
        try clear hfz43_6
        try clear hfz43_7
        try clear hfz43_8
        try clear hfz43_9
        try clear hfz5_0
        try clear hfz5_1
        try clear hfz5_10
        try clear hfz5_2
        try clear hfz5_3
        try clear hfz5_4
        try clear hfz5_5
        try clear hfz5_6
        try clear hfz5_7
        try clear hfz5_8
        try clear hfz5_9
        try clear p2
        obtain ⟨kq,x63_38,rfl,HA,HJ38,HO_6,BK583,HB⟩:=hcut
        have hl6_38:=(Kd.R_reads' HO_6.out).1
        rw [hl6_38] at HO_6
        (try simp only [hl6_38])
        (try simp only [hl6_38] at BK583)
        cases kq with
        | zero => exact absurd HA.out (by simp [laws_FnExactConnAgain.j1])
        | succ kj38 =>
         have H:=HA.out
         clear HA
         simp only [laws_FnExactConnAgain.j1] at H
         by_cases c54 : x63_38 = true
         ·subst c54
          have H1 : (some false) = some r:=by rw [if_pos rfl] at H;exact H
          clear H
          have H:=H1
          clear H1
          obtain rfl:=Option.some.inj H
          go_wp2
          go_ret
          exact ⟨by first | rfl|(simp [errW_none,errW_some] <;> rfl)|(simp [*,errW_none,errW_some] <;> rfl),by repeat (first|(with_reducible first|exact HB.out|apply bwA|apply bwN|apply bw1|refine below_set ?_ GE583.out)|exact HB.out)⟩
         ·replace c54:=Bool.eq_false_iff.mpr c54
          subst c54
          have H1 : ((laws_heldSegmentS.f kj38 t617 1).bind fun t635 => (if t635 < 0 then (some false) else (if t635 = t616 then (some true) else (some false)))) = some r:=by rw [if_neg (show ¬ (false = true) by decide)] at H;exact H
          clear H
          have H:=H1
          clear H1
          replace H:=Option.bind_eq_some_iff.mp H
          obtain ⟨t635,A550,H⟩:=H
          replace H : (if t635 < 0 then (some false) else (if t635 = t616 then (some true) else (some false))) = some r:=H
          have A55:=aMk A550
          clear A550
          by_cases c56 : t635 < 0
          ·rw [if_pos c56] at H
           have c56b0 : decide (t635 < 0) = true:=decide_eq_true c56
           clear c56
           obtain rfl:=Option.some.inj H
           go_wp2_with (first|((with_reducible refine gate_callee (f:=40) rfl ?_);refine goesL_ (some 66) rfl rfl Try.func40 (by kernel_rfl) rfl #[.slice Ao40 t617.length co40,.int .i64 1] rfl (by (try simp only [List.map_toArray,List.map_cons,List.map_nil]);first | done | rfl|(simp only [List.length_drop,List.length_take];rfl)) ?_;(with_reducible refine (laws_heldSegmentS.calls kj38 _ _ t617 1 t635 _ ?side1 ?side2 A55.out).mono ?_);(case side1 => repeat (first|exact (Kd.R_reads' HO_6.out).2.2|(with_reducible refine Kd.C_alloc ?_ _)|(with_reducible refine Kd.C_drewN ?_ _)|(with_reducible refine Kd.C_drew ?_)));(case side2 => exact (Kd.R_reads' HO_6.out).2.1);rintro e w57 ⟨rfl,hb⟩;refine ⟨_,rfl,?_⟩;have n0_:=aMk (Kd.R_below (by (with_reducible repeat (first|apply Kd.R_alloc|apply Kd.R_drewN|apply Kd.R_drew));exact HO_6.out) hb);have n1_:=aMk (blk_below (g:=gb583) (o:=.cells #[.string a0_0,.int .i64 a0_1,.int .i64 a0_2,.int .i64 a0_3,.int .i64 a0_4,.int .i64 a0_5,.int .i64 a0_6,.int .i64 a0_7,.string a0_8,.string a0_9,.bool a0_10] 31 (0,0)) (by (with_reducible repeat (first|refine bDn ?_ _|refine bDr ?_|refine bAl ?_ _));exact BK583.out) hb);have n2_:=aMk (below_step (by repeat (first|(with_reducible first|exact HB.out|apply bwA|apply bwN|apply bw1|refine below_set ?_ GE583.out)|exact HB.out)) hb);clear HO_6;clear BK583;clear HB;have HO_6:=n0_;have BK583:=n1_;have HB:=n2_;clear n0_ n1_ n2_;(try clear hb);(try clear hb2);(try clear hk);(try clear hi)))
           go_ret
           exact ⟨by first | rfl|(simp [errW_none,errW_some] <;> rfl)|(simp [*,errW_none,errW_some] <;> rfl),by repeat (first|(with_reducible first|exact HB.out|apply bwA|apply bwN|apply bw1|refine below_set ?_ GE583.out)|exact HB.out)⟩
          ·rw [if_neg c56] at H
           have c56b0 : decide (t635 < 0) = false:=decide_eq_false c56
           clear c56
           by_cases c58 : t635 = t616
           ·rw [if_pos c58] at H
            have c58b0 : (t635 == t616) = true:=beq_iff_eq.mpr c58
            have c58b1 : (t635 != t616) = false:=bne_eq_false_iff_eq.mpr c58
            clear c58
            obtain rfl:=Option.some.inj H
            go_wp2_with (first|((with_reducible refine gate_callee (f:=40) rfl ?_);refine goesL_ (some 66) rfl rfl Try.func40 (by kernel_rfl) rfl #[.slice Ao40 t617.length co40,.int .i64 1] rfl (by (try simp only [List.map_toArray,List.map_cons,List.map_nil]);first | done | rfl|(simp only [List.length_drop,List.length_take];rfl)) ?_;(with_reducible refine (laws_heldSegmentS.calls kj38 _ _ t617 1 t635 _ ?side1 ?side2 A55.out).mono ?_);(case side1 => repeat (first|exact (Kd.R_reads' HO_6.out).2.2|(with_reducible refine Kd.C_alloc ?_ _)|(with_reducible refine Kd.C_drewN ?_ _)|(with_reducible refine Kd.C_drew ?_)));(case side2 => exact (Kd.R_reads' HO_6.out).2.1);rintro e w59 ⟨rfl,hb⟩;refine ⟨_,rfl,?_⟩;have n0_:=aMk (Kd.R_below (by (with_reducible repeat (first|apply Kd.R_alloc|apply Kd.R_drewN|apply Kd.R_drew));exact HO_6.out) hb);have n1_:=aMk (blk_below (g:=gb583) (o:=.cells #[.string a0_0,.int .i64 a0_1,.int .i64 a0_2,.int .i64 a0_3,.int .i64 a0_4,.int .i64 a0_5,.int .i64 a0_6,.int .i64 a0_7,.string a0_8,.string a0_9,.bool a0_10] 31 (0,0)) (by (with_reducible repeat (first|refine bDn ?_ _|refine bDr ?_|refine bAl ?_ _));exact BK583.out) hb);have n2_:=aMk (below_step (by repeat (first|(with_reducible first|exact HB.out|apply bwA|apply bwN|apply bw1|refine below_set ?_ GE583.out)|exact HB.out)) hb);clear HO_6;clear BK583;clear HB;have HO_6:=n0_;have BK583:=n1_;have HB:=n2_;clear n0_ n1_ n2_;(try clear hb);(try clear hb2);(try clear hk);(try clear hi)))
            go_ret
            exact ⟨by first | rfl|(simp [errW_none,errW_some] <;> rfl)|(simp [*,errW_none,errW_some] <;> rfl),by repeat (first|(with_reducible first|exact HB.out|apply bwA|apply bwN|apply bw1|refine below_set ?_ GE583.out)|exact HB.out)⟩
           ·rw [if_neg c58] at H
            have c58b0 : (t635 == t616) = false:=beq_eq_false_iff_ne.mpr c58
            have c58b1 : (t635 != t616) = true:=bne_iff_ne.mpr c58
            obtain rfl:=Option.some.inj H
            go_wp2_with (first|((with_reducible refine gate_callee (f:=40) rfl ?_);refine goesL_ (some 66) rfl rfl Try.func40 (by kernel_rfl) rfl #[.slice Ao40 t617.length co40,.int .i64 1] rfl (by (try simp only [List.map_toArray,List.map_cons,List.map_nil]);first | done | rfl|(simp only [List.length_drop,List.length_take];rfl)) ?_;(with_reducible refine (laws_heldSegmentS.calls kj38 _ _ t617 1 t635 _ ?side1 ?side2 A55.out).mono ?_);(case side1 => repeat (first|exact (Kd.R_reads' HO_6.out).2.2|(with_reducible refine Kd.C_alloc ?_ _)|(with_reducible refine Kd.C_drewN ?_ _)|(with_reducible refine Kd.C_drew ?_)));(case side2 => exact (Kd.R_reads' HO_6.out).2.1);rintro e w60 ⟨rfl,hb⟩;refine ⟨_,rfl,?_⟩;have n0_:=aMk (Kd.R_below (by (with_reducible repeat (first|apply Kd.R_alloc|apply Kd.R_drewN|apply Kd.R_drew));exact HO_6.out) hb);have n1_:=aMk (blk_below (g:=gb583) (o:=.cells #[.string a0_0,.int .i64 a0_1,.int .i64 a0_2,.int .i64 a0_3,.int .i64 a0_4,.int .i64 a0_5,.int .i64 a0_6,.int .i64 a0_7,.string a0_8,.string a0_9,.bool a0_10] 31 (0,0)) (by (with_reducible repeat (first|refine bDn ?_ _|refine bDr ?_|refine bAl ?_ _));exact BK583.out) hb);have n2_:=aMk (below_step (by repeat (first|(with_reducible first|exact HB.out|apply bwA|apply bwN|apply bw1|refine below_set ?_ GE583.out)|exact HB.out)) hb);clear HO_6;clear BK583;clear HB;have HO_6:=n0_;have BK583:=n1_;have HB:=n2_;clear n0_ n1_ n2_;(try clear hb);(try clear hb2);(try clear hk);(try clear hi)))
            go_ret
            exact ⟨by first | rfl|(simp [errW_none,errW_some] <;> rfl)|(simp [*,errW_none,errW_some] <;> rfl),by repeat (first|(with_reducible first|exact HB.out|apply bwA|apply bwN|apply bw1|refine below_set ?_ GE583.out)|exact HB.out)⟩
      ·rw [if_neg c36] at H
       have c36b0 : (t618 == t616) = false:=beq_eq_false_iff_ne.mpr c36
       have c36b1 : (t618 != t616) = true:=bne_iff_ne.mpr c36
       obtain rfl:=Option.some.inj H
       obtain ⟨Ao61,co61,eo61⟩:=Kd.R_slice HO_6.out
       subst eo61
       go_wp2_with (first|((with_reducible refine gate_callee (f:=39) rfl ?_);refine goesL_ (some 40) rfl rfl Try.func39 (by kernel_rfl) rfl #[.slice Ao61 t611.length co61,.int .i64 1] rfl (by (try simp only [List.map_toArray,List.map_cons,List.map_nil]);first | done | rfl|(simp only [List.length_drop,List.length_take];rfl)) ?_;(with_reducible refine (laws_markSegmentS.calls kj10 (fun k_ => some k_ = (.slice Ao61 t611.length co61 : Value).ownBlock) (.slice Ao61 t611.length co61) t611 1 t616 t617 w _ ?side1 ?side2 A30.out).mono ?_);(case side1 => repeat (first|(with_reducible first|exact HB.out|apply bwA|apply bwN|apply bw1|refine below_set ?_ GE583.out)|exact HB.out));(case side2 => exact Kd.R_tight rfl HO_6.out);rintro e w62 ⟨rfl,hy0,hb,hkp⟩;refine ⟨_,rfl,?_⟩;have n0_:=aMk (Kd.R_mono (ok':=fun k_ => some k_ ≠ (.slice Ao61 t611.length co61 : Value).ownBlock) (Kd.R_keptB (HO_4.out) hkp (fun k_ hk_ hs_ => (hk_) hs_)) (fun k_ hk_ => hk_.1));have n1_:=aMk (Kd.R_reok rfl hy0 (fun k_ e_ => HO_6.out.1 k_ e_));have n2_:=aMk (blk_kept (by (with_reducible repeat (first|refine bDn ?_ _|refine bDr ?_|refine bAl ?_ _));exact BK583.out) hkp (fun hs_ => (fun e_ => (Kd.R_ne HO_6.out BK583.out (by decide)) e_) hs_));have n3_:=aMk (hb);clear HO_4;clear HO_6;clear BK583;clear HB;have HO_4:=n0_;have HO_6:=n1_;have BK583:=n2_;have HB:=n3_;clear n0_ n1_ n2_ n3_;(try clear hb);(try clear hkp);(try clear hy0))|((with_reducible refine gate_callee (f:=40) rfl ?_);refine goesL_ (some 43) rfl rfl Try.func40 (by kernel_rfl) rfl #[.slice Ao61 t617.length co61,.int .i64 1] rfl (by (try simp only [List.map_toArray,List.map_cons,List.map_nil]);first | done|(rw [show t617.length = t611.length from (Kd.R_reads' HO_6.out).1.symm] <;> rfl) | rfl|(simp only [List.length_drop,List.length_take];rfl)) ?_;(with_reducible refine (laws_heldSegmentS.calls kj10 _ _ t617 1 t618 _ ?side1 ?side2 A31.out).mono ?_);(case side1 => repeat (first|exact (Kd.R_reads' HO_6.out).2.2|(with_reducible refine Kd.C_alloc ?_ _)|(with_reducible refine Kd.C_drewN ?_ _)|(with_reducible refine Kd.C_drew ?_)));(case side2 => rw [show t617.length = t611.length from (Kd.R_reads' HO_6.out).1.symm];exact (Kd.R_reads' HO_6.out).2.1);rintro e w63 ⟨rfl,hb⟩;refine ⟨_,rfl,?_⟩;have n0_:=aMk (Kd.R_below (by (with_reducible repeat (first|apply Kd.R_alloc|apply Kd.R_drewN|apply Kd.R_drew));exact HO_4.out) hb);have n1_:=aMk (Kd.R_below (by (with_reducible repeat (first|apply Kd.R_alloc|apply Kd.R_drewN|apply Kd.R_drew));exact HO_6.out) hb);have n2_:=aMk (blk_below (g:=gb583) (o:=.cells #[.string a0_0,.int .i64 a0_1,.int .i64 a0_2,.int .i64 a0_3,.int .i64 a0_4,.int .i64 a0_5,.int .i64 a0_6,.int .i64 a0_7,.string a0_8,.string a0_9,.bool a0_10] 31 (0,0)) (by (with_reducible repeat (first|refine bDn ?_ _|refine bDr ?_|refine bAl ?_ _));exact BK583.out) hb);have n3_:=aMk (below_step (by repeat (first|(with_reducible first|exact HB.out|apply bwA|apply bwN|apply bw1|refine below_set ?_ GE583.out)|exact HB.out)) hb);clear HO_4;clear HO_6;clear BK583;clear HB;have HO_4:=n0_;have HO_6:=n1_;have BK583:=n2_;have HB:=n3_;clear n0_ n1_ n2_ n3_;(try clear hb);(try clear hb2);(try clear hk);(try clear hi)))
       go_ret
       exact ⟨by first | rfl|(simp [errW_none,errW_some] <;> rfl)|(simp [*,errW_none,errW_some] <;> rfl),by repeat (first|(with_reducible first|exact HB.out|apply bwA|apply bwN|apply bw1|refine below_set ?_ GE583.out)|exact HB.out)⟩
end
section
-- IMPORT Derived.SizedLaws
-- IMPORT Derived.ProofKit
-- IMPORT Derived.WalkKit
-- IMPORT Derived.OpenShut
-- IMPORT Derived.ShutString
-- IMPORT Derived.ChangeOld
-- IMPORT Derived.Below
-- IMPORT Derived.Deep.Slices
open Go.ChangeShapes Go.WideShapes Go.ChangeAt Go.Deep
/-- What reads as data of type t is a value of the kind d,and meets wf. -/
structure Opens (P : Program) (t : TypeId) {α : Type} (d : Kd α) (wf : α → Prop) : Prop where
 sz : P.cellsOf t = d.sz
 op : ∀ {H : Type} {enc : TypeId × Value → H} {w : World} {fuel : Nat} {cs : List Value} {y : DataW H × List MemPlace},DataW.trod enc P w 0 (fun _ => true) true fuel t cs = some y → (∀ n ∈ y.1.weights P t,n ≤ reachBytes) → ∃ x,d.K w x cs ∧ wf x
theorem Opens.int {P : Program} {t : TypeId} {k : IntKind} (hu : P.underlying t = some (.int k)) (hc : P.cellsOf t = 1) : Opens P t (Kd.int k) (fun n => (Lit.int k n).wf = true) :=
 ⟨hc,fun h _ => by obtain ⟨n,rfl,rfl,wf⟩:=DataW.trod_int hu h;exact ⟨n,rfl,wf⟩⟩
theorem Opens.bool {P : Program} {t : TypeId} (hu : P.underlying t = some .bool) (hc : P.cellsOf t = 1) : Opens P t Kd.bool (fun _ => True) :=
 ⟨hc,fun h _ => by obtain ⟨n,rfl,rfl⟩:=DataW.trod_bool hu h;exact ⟨n,rfl,trivial⟩⟩
theorem Opens.string {P : Program} {t : TypeId} (hu : P.underlying t = some .string) (hc : P.cellsOf t = 1) : Opens P t Kd.string (fun s => s.size ≤ 140737488351232) :=
 ⟨hc,fun h hw => by
  obtain ⟨s,rfl,rfl,_⟩:=DataW.trod_string hu h
  refine ⟨s,rfl,?_⟩
  have:=hw s.data.toList.length (by simp [DataW.weights])
  simpa [reachBytes] using this⟩
theorem weights_mem_all {H : Type} {P : Program} {e : TypeId} {n : Nat} : ∀ {l : List (DataW H)} {d : DataW H},d ∈ l → n ∈ d.weights P e → n ∈ DataW.weightsAll P e l
 | d0 :: l,d,hd,hn => by
  simp only [DataW.weightsAll,List.mem_append]
  rcases List.mem_cons.1 hd with rfl | hd
  ·exact .inl hn
  ·exact .inr (weights_mem_all hd hn)
 | [],_,hd,_ => by cases hd
theorem list_of_all {α : Type} {Q : Nat → α → Prop} (n : Nat) (h : ∀ i,i < n → ∃ x,Q i x) : ∃ xs : List α,xs.length = n ∧ ∀ j x,xs[j]? = some x → Q j x:=by
 induction n with
 | zero => exact ⟨[],rfl,fun j x h => by simp at h⟩
 | succ n ih =>
  obtain ⟨xs,hl,hx⟩:=ih (fun i hi => h i (by omega))
  obtain ⟨x,hq⟩:=h n (by omega)
  refine ⟨xs ++ [x],by simp [hl],fun j y hj => ?_⟩
  rcases Nat.lt_or_ge j xs.length with hlt | hge
  ·rw [List.getElem?_append_left hlt] at hj
   exact hx j y hj
  ·rw [List.getElem?_append_right hge] at hj
   have : j - xs.length = 0:=by
    rcases Nat.lt_or_ge (j - xs.length) 1 with h1 | h1
    ·omega
    ·rw [List.getElem?_eq_none (by simpa using h1)] at hj;cases hj
   rw [this] at hj
   simp at hj
   subst hj
   have : j = n:=by omega
   subst this
   exact hq
theorem Opens.slice {α : Type} {P : Program} {t e : TypeId} {d : Kd α} {wf : α → Prop} (hu : P.underlying t = some (.slice e)) (hc : P.cellsOf t = 1) (B : Nat) (hB : P.bytesOf e = B) (he : Opens P e d wf) :
  Opens P t (Kd.slice e d) (fun xs => xs.length * B ≤ 140737488351232 ∧ xs.length ≤ maxLen ∧ ∀ x ∈ xs,wf x) :=
 ⟨hc,fun {H enc w fuel cs y} h hw => by
  rcases open_slice hu h with ⟨rfl,rfl⟩ | ⟨a,len,cap,m,n,D,Pl,rfl,_,hl,hm,hmm,rfl,hel⟩
  ·exact ⟨[],⟨none,0,rfl,Nat.le_refl _,Kd.C_nil d w⟩,by simp,by simp,fun x hx => by cases hx⟩
  have hmc : m = cap:=by rw [hmm];rfl
  subst hmc
  have hwt : ∀ i,i < len → ∀ z ∈ (D i).weights P e,z ≤ reachBytes:=fun i hi z hz => hw z (by
   simp only [DataW.weights,hu]
   exact List.mem_cons_of_mem _ (List.mem_append_left _ (weights_mem_all (List.mem_map.2 ⟨i,List.mem_range.2 hi,rfl⟩) hz)))
  have hall : ∀ i,i < len → ∃ x : α,(∃ c,c.length = d.sz ∧ d.K w x c ∧ ∀ j u,c[j]? = some u → w.cell? (a.add (i * d.sz + j)) = some u) ∧ wf x:=by
   intro i hi
   obtain ⟨cs',hcs,htr⟩:=hel i (by omega)
   obtain ⟨x,hk,hx⟩:=he.op htr (hwt i hi)
   obtain ⟨_,hlen,hcell⟩:=World.cells?_some hcs
   refine ⟨x,⟨cs',by rw [hlen,he.sz],hk,fun j u hu' => ?_⟩,hx⟩
   have hj : j < cs'.length:=by
    rcases Nat.lt_or_ge j cs'.length with h1 | h1
    ·exact h1
    ·rw [List.getElem?_eq_none h1] at hu';cases hu'
   rw [hlen] at hj
   have hcj:=hcell j hj
   rw [hu',he.sz,Addr.add_add] at hcj
   exact hcj
  obtain ⟨xs,hxl,hxs⟩:=list_of_all (Q:=fun i x => (∃ c,c.length = d.sz ∧ d.K w x c ∧ ∀ j u,c[j]? = some u → w.cell? (a.add (i * d.sz + j)) = some u) ∧ wf x) len hall
  subst hxl
  refine ⟨xs,⟨some a,m,rfl,hl,rfl,?_,fun _ => ⟨a,rfl,fun j p hp => (hxs j p hp).1⟩⟩,?_,?_,?_⟩
  ·unfold maxLen at hm;omega
  ·have:=hw ((List.map D (List.range xs.length)).length + (List.map (fun j => D (xs.length + j)) (List.range (m - xs.length))).length) |> fun h => h
   have h1:=hw (((List.map D (List.range xs.length)).length + (List.map (fun j => D (xs.length + j)) (List.range (m - xs.length))).length) * P.bytesOf e) (by simp only [DataW.weights,hu];exact List.mem_cons_self)
   rw [hB] at h1
   simp only [List.length_map,List.length_range] at h1
   have h2 : xs.length * B ≤ (xs.length + (m - xs.length)) * B:=Nat.mul_le_mul_right _ (by omega)
   exact Nat.le_trans h2 h1
  ·omega
  ·intro x hx
   obtain ⟨j,hj,rfl⟩:=List.getElem_of_mem hx
   exact (hxs j _ (List.getElem?_eq_getElem hj)).2⟩
/-- Fields in line from cell o on. -/
structure OpensF (P : Program) (fs : List Field) (o : Nat) {α : Type} (d : Kd α) (wf : α → Prop) : Prop where
 op : ∀ {H : Type} {enc : TypeId × Value → H} {w : World} {n : Nat} {cs : List Value} {xs : List (DataW H × List MemPlace)},o + d.sz ≤ cs.length → xs.length = fs.length →
  (∀ (i : Nat) (f : Field),fs[i]? = some f → DataW.trod enc P w 0 (fun _ => true) true n f.type ((cs.drop f.offset).take (P.cellsOf f.type)) = xs[i]?) →
  (∀ z ∈ DataW.weightsEach P (fs.map (·.type)) (xs.map (·.1)),z ≤ reachBytes) → ∃ x,d.K w x ((cs.drop o).take d.sz) ∧ wf x
theorem OpensF.one {α : Type} {P : Program} {f : Field} {o : Nat} {d : Kd α} {wf : α → Prop} (ho : f.offset = o) (h : Opens P f.type d wf) : OpensF P [f] o d wf:=by
 refine ⟨fun {H enc w n cs xs} hlen hxl htr hw => ?_⟩
 match xs,hxl with
 | [y],_ =>
  have h1:=htr 0 f rfl
  rw [ho,h.sz] at h1
  exact h.op (y:=y) h1 (fun z hz => hw z (by simpa [DataW.weightsEach] using hz))
theorem OpensF.cons {α β : Type} {P : Program} {f : Field} {fs : List Field} {o : Nat} {a : Kd α} {b : Kd β} {wa : α → Prop} {wb : β → Prop} (ho : f.offset = o) (h : Opens P f.type a wa) (o' : Nat) (ho' : o + a.sz = o') (hr : OpensF P fs o' b wb) :
  OpensF P (f :: fs) o (Kd.pair a b) (fun x => wa x.1 ∧ wb x.2):=by
 refine ⟨fun {H enc w n cs xs} hlen hxl htr hw => ?_⟩
 match xs,hxl with
 | y :: ys,hxl =>
  have h1:=htr 0 f rfl
  rw [ho,h.sz] at h1
  have hsz : (Kd.pair a b).sz = a.sz + b.sz:=rfl
  rw [hsz] at hlen
  obtain ⟨x0,k0,w0⟩:=h.op (y:=y) h1 (fun z hz => hw z (by simp only [List.map_cons,DataW.weightsEach,List.mem_append];exact .inl hz))
  obtain ⟨x1,k1,w1⟩:=hr.op (n:=n) (cs:=cs) (xs:=ys) (enc:=enc) (w:=w) (by omega) (by simpa using hxl) (fun i g hg => by have:=htr (i + 1) g (by simpa using hg);simpa using this) (fun z hz => hw z (by simp only [List.map_cons,DataW.weightsEach,List.mem_append];exact .inr hz))
  refine ⟨(x0,x1),⟨(cs.drop o).take a.sz,(cs.drop o').take b.sz,?_,k0,k1⟩,w0,w1⟩
  rw [hsz,← ho',List.take_add,List.drop_drop]
theorem Opens.struct {α : Type} {P : Program} {t : TypeId} {fs : Array Field} {d : Kd α} {wf : α → Prop} (hu : P.underlying t = some (.struct fs)) (hc : P.cellsOf t = d.sz) (h : OpensF P fs.toList 0 d wf) : Opens P t d wf :=
 ⟨hc,fun {H enc w fuel cs y} ht hw => by
  obtain ⟨xs,n,rfl,rfl,hlen,hxl,htr⟩:=DataW.trod_struct hu ht
  obtain ⟨x,hk,hx⟩:=h.op (enc:=enc) (w:=w) (n:=n) (cs:=cs) (xs:=xs) (by omega) (by simpa using hxl) (fun i f hf => htr i f (by simpa using hf)) (fun z hz => hw z (by simp only [DataW.weights,hu];exact hz))
  refine ⟨x,?_,hx⟩
  rw [List.drop_zero,List.take_of_length_le (by omega)] at hk
  exact hk⟩
theorem Opens.iso {α β : Type} {P : Program} {t : TypeId} {d : Kd α} {wf : α → Prop} (f : β → α) (g : α → β) (hfg : ∀ x,f (g x) = x) (h : Opens P t d wf) : Opens P t (Kd.iso d f) (fun x => wf (f x)) :=
 ⟨h.sz,fun ht hw => by
  obtain ⟨x,hk,hx⟩:=h.op ht hw
  exact ⟨g x,by show d.K _ (f (g x)) _;rw [hfg];exact hk,by rw [hfg];exact hx⟩⟩
end
section
def wf31 (x : S31) : Prop:=x.f0.size ≤ 140737488351232 ∧ ((Lit.int .i64 x.f1).wf = true ∧ ((Lit.int .i64 x.f2).wf = true ∧ ((Lit.int .i64 x.f3).wf = true ∧ ((Lit.int .i64 x.f4).wf = true ∧ ((Lit.int .i64 x.f5).wf = true ∧ ((Lit.int .i64 x.f6).wf = true ∧ ((Lit.int .i64 x.f7).wf = true ∧ (x.f8.size ≤ 140737488351232 ∧ (x.f9.size ≤ 140737488351232 ∧ (True))))))))))
set_option maxRecDepth 100000 in
theorem opens31 : Opens Try.prog 31 k31 wf31 :=
 Opens.iso (fun x : S31 => (x.f0,x.f1,x.f2,x.f3,x.f4,x.f5,x.f6,x.f7,x.f8,x.f9,x.f10)) (fun y => ⟨y.1,y.2.1,y.2.2.1,y.2.2.2.1,y.2.2.2.2.1,y.2.2.2.2.2.1,y.2.2.2.2.2.2.1,y.2.2.2.2.2.2.2.1,y.2.2.2.2.2.2.2.2.1,y.2.2.2.2.2.2.2.2.2.1,y.2.2.2.2.2.2.2.2.2.2⟩) (fun _ => rfl) (Opens.struct Try.underlying31 (by kernel_rfl) (OpensF.cons rfl (Opens.string Try.underlying9 (by kernel_rfl)) 1 rfl (OpensF.cons rfl (Opens.int Try.underlying3 (by kernel_rfl)) 2 rfl (OpensF.cons rfl (Opens.int Try.underlying3 (by kernel_rfl)) 3 rfl (OpensF.cons rfl (Opens.int Try.underlying3 (by kernel_rfl)) 4 rfl (OpensF.cons rfl (Opens.int Try.underlying3 (by kernel_rfl)) 5 rfl (OpensF.cons rfl (Opens.int Try.underlying3 (by kernel_rfl)) 6 rfl (OpensF.cons rfl (Opens.int Try.underlying3 (by kernel_rfl)) 7 rfl (OpensF.cons rfl (Opens.int Try.underlying3 (by kernel_rfl)) 8 rfl (OpensF.cons rfl (Opens.string Try.underlying9 (by kernel_rfl)) 9 rfl (OpensF.cons rfl (Opens.string Try.underlying9 (by kernel_rfl)) 10 rfl (OpensF.one rfl (Opens.bool Try.underlying4 (by kernel_rfl))))))))))))))
end
section
def P_FnExactConnAgain : Prop:=∀ (a0 : S31),wf31 a0 → ∃ k,laws_FnExactConnAgain.f k a0.f0 a0.f1 a0.f2 a0.f3 a0.f4 a0.f5 a0.f6 a0.f7 a0.f8 a0.f9 a0.f10 = some true
end
section
-- NEEDS laws.FnExactConnAgain
theorem szConn_some (a : ByteArray) (b c d e f g h : Int) (i j : ByteArray) (l : Bool) (n : Int) : ∃ z,laws_szConn.f a b c d e f g h i j l n = some z:=by
 unfold laws_szConn.f
 repeat' split
 all_goals exact ⟨_,rfl⟩
end
section
def P_FnExactConnSay : Prop:=∀ (a0 : S31) (a1 : ByteArray),wf31 a0 → a1.size ≤ 140737488351232 → ∃ k,laws_FnExactConnSay.f k a0.f0 a0.f1 a0.f2 a0.f3 a0.f4 a0.f5 a0.f6 a0.f7 a0.f8 a0.f9 a0.f10 a1 = some true
end
section
-- NEEDS laws.FnExactConnSay laws.FnExactConnAgain
theorem pure_FnExactConnSay : P_FnExactConnSay:=by
 intro c t _ _
 obtain ⟨c0,c1,c2,c3,c4,c5,c6,c7,c8,c9,c10,l,code,hlen,⟨K4,hi⟩,⟨K5,hs⟩⟩:=ConnSay_same c.f0 c.f1 c.f2 c.f3 c.f4 c.f5 c.f6 c.f7 c.f8 c.f9 c.f10 t
 obtain ⟨K1,h1⟩:=eqS_T53_ev l (by omega)
 obtain ⟨ys,⟨K2,h2⟩,hy,hz⟩:=mark_T53_ev l 1 (by omega) (by omega)
 obtain ⟨K3,h3⟩:=held_T53_ev ys 1 (by omega) (by omega) (fun j a b => hz j a (by omega))
 obtain ⟨z,hzz⟩:=szConn_some c.f0 c.f1 c.f2 c.f3 c.f4 c.f5 c.f6 c.f7 c.f8 c.f9 c.f10 1048576
 rw [hy] at h3
 have b0:=hs (K1 + K2 + K3 + K4 + K5 + 3) (by omega)
 have b1:=hi (K1 + K2 + K3 + K4 + K5 + 3) (by omega)
 have b2:=h1 (K1 + K2 + K3 + K4 + K5 + 3) (by omega)
 have b3:=hi (K1 + K2 + K3 + K4 + K5 + 2) (by omega)
 have b4:=h1 (K1 + K2 + K3 + K4 + K5 + 2) (by omega)
 have b5:=h2 (K1 + K2 + K3 + K4 + K5 + 2) (by omega)
 have b6:=h3 (K1 + K2 + K3 + K4 + K5 + 2) (by omega)
 have b7:=h3 (K1 + K2 + K3 + K4 + K5 + 1) (by omega)
 refine ⟨K1 + K2 + K3 + K4 + K5 + 3,?_⟩
 simp only [laws_FnExactConnSay.f,hzz,Option.bind_some,laws_toConn.f,b0,b1,b2,eqConn_refl,if_true,bne_self_eq_false,laws_FnExactConnSay.j0,Bool.false_eq_true,if_false,b3,b4,b5,b6,laws_FnExactConnSay.j1,b7]
 rw [if_neg (show ¬ (1 + 7 * (l.length : Int)) < 0 by omega)]
 simp
 omega
end
section
-- IMPORT Derived.Test.YtlpkldomoniegaaRows
-- IMPORT Derived.WalkKit
-- IMPORT Derived.ProofKit
-- IMPORT Derived.OpenShut
-- IMPORT Derived.ShutString
-- IMPORT Derived.ChangeOld
-- IMPORT Derived.Below
-- IMPORT Derived.SizedLaws
open Go.ChangeShapes Go.WideShapes Go.ChangeAt
open Go.ChangeMaps (open_string shut_string)
theorem own_FnExactConnSay : ownKnob Try.prog.godebug = none:=by kernel_rfl
theorem laidOut_FnExactConnSay : laidOutB Try.prog = true:=by kernel_rfl
set_option maxHeartbeats 4000000 in
set_option maxRecDepth 100000 in
theorem lifted_FnExactConnSay (os : Os) (started : os.Started) (H : Type) (enc : TypeId × Value → H) :
  ReturnsInHanded {} Try.checked os 11 .any (Rows.fnExactConnSaySpec.pre6 enc Try.prog Try.f11 Rows.fnExactConnSayRow.domain false) (Rows.fnExactConnSaySpec.post enc Try.prog Try.f11 false true false false):=by
 refine returnsInHanded_of_change_sized (C:=Try.checked) own_FnExactConnSay started (by kernel_rfl) Try.func11
  (ChangeSpec.witness6 (enc:=enc) (C:=Try.checked) false ⟨#[],#[.agg #[.string ByteArray.empty,.int .i64 0,.int .i64 0,.int .i64 0,.int .i64 0,.int .i64 0,.int .i64 0,.int .i64 0,.string ByteArray.empty,.string ByteArray.empty,.bool false],.string ByteArray.empty],[]⟩ 8 (by kernel_rfl) (by kernel_rfl) (by kernel_rfl) (by kernel_rfl)) ?_
 intro W base args ds gs before hval0 hW hcnd hsz0 _
 have hsz : (DataW.weightsEach Try.prog (Try.f11.params.toList ++ Rows.fnExactConnSaySpec.plain.varTypes Try.prog) (ds ++ gs)).all (· ≤ reachBytes) = true:=hsz0
 have hval : ∀ (j : Nat) t v,Try.f11.params[j]? = some t → args[j]? = some v → Value.okWide Try.prog W .any base t v:=hval0
 have hW':=hW
 obtain ⟨p,q,hA0,hV,rfl,hfz,hnd⟩:=hW
 have hA : DataW.TrodAll enc Try.prog W 0 (fun _ => true) true Try.f11.params.toList args.toList ds p:=hA0
 rw [Try.params11] at hA hval hsz
 obtain ⟨v0,vs0,d0,ds0,p0,q0,hargs,rfl,rfl,h0,r0⟩:=trodAll_cons hA
 obtain ⟨v1,vs1,d1,ds1,p1,q1,rfl,rfl,rfl,h1,r1⟩:=trodAll_cons r0
 obtain ⟨rfl,rfl,rfl⟩:=trodAll_nil r1
 obtain rfl : args = #[v0,v1]:=by cases args;simp_all
 obtain ⟨rfl,rfl⟩:=trodVars_none hV
 have k0:=h0
 have lt0 : ∀ x ∈ p0,x.block < W.heap.size:=by obtain ⟨m,hm⟩:=k0;exact DataW.trod_lt m _ _ _ hm
 obtain ⟨cs0,rfl,_⟩:=okWide_struct Try.underlying31 (hval 0 31 v0 rfl rfl)
 obtain ⟨fuel0,hf0⟩:=h0
 obtain ⟨a0,kx0,w0⟩:=opens31.op hf0 (fun n hn => by have z:=List.all_eq_true.1 hsz _ (DataW.weights_mem_each (j:=0) (t:=31) rfl rfl n hn);simpa using z)
 have e0:=k31_open kx0
 obtain rfl : cs0 = #[.string a0.f0,.int .i64 a0.f1,.int .i64 a0.f2,.int .i64 a0.f3,.int .i64 a0.f4,.int .i64 a0.f5,.int .i64 a0.f6,.int .i64 a0.f7,.string a0.f8,.string a0.f9,.bool a0.f10]:=Array.toList_inj.1 e0
 obtain ⟨a1,rfl,rfl,rfl,y1⟩:=open_string Try.underlying9 (hval 1 9 v1 rfl rfl) h1
 have w1 : a1.size ≤ 140737488351232:=by
  have z:=sized_string hsz (j:=1) (t:=9) rfl rfl
  rw [Array.length_toList] at z
  exact z
 clear hA0 hval0 hsz0 hsz
 obtain ⟨k,hk⟩:=pure_FnExactConnSay a0 a1 w0 w1
 refine (laws_FnExactConnSay.calls k a0.f0 a0.f1 a0.f2 a0.f3 a0.f4 a0.f5 a0.f6 a0.f7 a0.f8 a0.f9 a0.f10 a1 true W  hk).mono fun e W' hh => ?_
 obtain ⟨he,bel0⟩:=hh
 have bel : Below W.heap.size W W':=bel0
 subst he
 exact ⟨_,rfl,_,_,_,[],_,[],hW',trodAll_mk1 (shut_bool Try.underlying4 _),(trodAll_cons_mk (Below.trod laidOut_FnExactConnSay (by kernel_rfl) (of_decide_eq_true (by kernel_rfl)) k0 bel lt0) (trodAll_cons_mk (shut_string Try.underlying9 y1) trodAll_mk0)),rfl,bel.frame _,fun h => by cases h⟩
theorem over_FnExactConnSay : Rows.fnExactConnSayRow.holds Try.pinned (OpenSpec.ofChange Rows.fnExactConnSaySpec) :=
 OpenClaim.holds_of_wide 11 Try.f11 rfl rfl rfl rfl rfl rfl rfl ⟨rfl,rfl,rfl,rfl,rfl⟩ rfl rfl rfl rfl rfl (by kernel_rfl) Try.func11 (by kernel_rfl)
  (of_decide_eq_true (by kernel_rfl)) (by unfold Func.isWrapper;first|(rw [if_pos (by decide +kernel)];kernel_rfl)|(rw [if_neg (by decide +kernel)];exact ⟨rfl,rfl⟩))
  (fun os started H enc _ => lifted_FnExactConnSay os started H enc)
theorem proved_FnExactConnSay : Rows.FnExactConnSaySaid:=over_FnExactConnSay
#print axioms proved_FnExactConnSay
end
end Go.Proofs.Ytlpkldomoniegaa.X
