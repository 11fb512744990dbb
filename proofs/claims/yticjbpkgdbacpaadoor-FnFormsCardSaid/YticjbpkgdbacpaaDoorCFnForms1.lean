/- Texts that the row of FnForms stands on: functions of the program and of the reference, each as a Lean function with the same answers, and the plain lemmas. Conditions: none beside those that each theorem names. -/
import Derived.Test.YticjbpkgdbacpaaDoorCFnForms0
namespace Go.Proofs.YticjbpkgdbacpaaDoor.X
open Go.RowKit Go.Proofs.YticjbpkgdbacpaaDoorW.PrintWords Go.Proofs.YticjbpkgdbacpaaDoorW.PrintLast Go.Proofs.YticjbpkgdbacpaaDoorW.PrintMore
attribute [local go_sem] max2_int min2_int max_two min_two max_three min_three max_four min_four   -- for this text's walks alone
set_option linter.unusedVariables false
set_option linter.unusedSimpArgs false
open Go.Proofs.YticjbpkgdbacpaaDoorW.PrintWords renaming blk_drewN -> bDn
open Go.Proofs.YticjbpkgdbacpaaDoorW.PrintWords renaming blk_drew -> bDr
open Go.Proofs.YticjbpkgdbacpaaDoorW.PrintWords renaming blk_alloc -> bAl
open Go.Proofs.YticjbpkgdbacpaaDoorW.PrintWords renaming blk_frozen -> bFr
open Go.Proofs.YticjbpkgdbacpaaDoorW.PrintWords renaming blk_cell -> bCe
open Go.Proofs.YticjbpkgdbacpaaDoorW.PrintWords.Aside0 renaming mk -> aMk
open Go.World renaming block_lt_of_cell? -> wLt
open Go.Proofs.YticjbpkgdbacpaaDoorW.PrintWords renaming pw_below_drewN -> bwN
open Go.Proofs.YticjbpkgdbacpaaDoorW.PrintWords renaming below_drew1 -> bw1
open Go.Proofs.YticjbpkgdbacpaaDoorW.PrintWords renaming below_alloc -> bwA
section
def errW : Option Int → Value
 | none => .nilIface
 | some c => .iface 126 (.int .i64 c)
theorem errW_none : errW none = .nilIface:=rfl
theorem errW_some (c : Int) : errW (some c) = .iface 126 (.int .i64 c):=rfl

theorem ne_nil_b (l : List UInt8) : (l != []) = !l.isEmpty:=by cases l <;> rfl

theorem info5 : (Tryd.prog.info? 5).map (fun i => (i.zero,i.size,i.bytes)) = some (some (.int .u8 0),1,1):=by kernel_rfl
theorem info9 : (Tryd.prog.info? 9).map (fun i => (i.zero,i.size,i.bytes)) = some (some (.string ⟨#[]⟩),1,16):=by kernel_rfl
theorem info55 : (Tryd.prog.info? 55).map (fun i => (i.zero,i.size,i.bytes)) = some (some (.agg #[(.string ⟨#[]⟩),(.string ⟨#[]⟩)]),2,32):=by kernel_rfl
def rd_L5 (xs : List (List Int)) (i : Int) : (List Int):=xs.getD i.toNat ([] : List Int)
/-! #### struct type 55 -/
structure S55 where
 f0 : ByteArray
 f1 : ByteArray
def z55 : S55:=⟨(⟨#[]⟩ : ByteArray),(⟨#[]⟩ : ByteArray)⟩
def k55 : Kd S55:=Kd.iso (Kd.pair Kd.string Kd.string) (fun x : S55 => (x.f0,x.f1))
theorem k55_open {w : World} {x : S55} {cs : List Value} (h : k55.K w x cs) : cs = [.string x.f0,.string x.f1]:=by
 obtain ⟨_,_,rfl,rfl,rfl⟩:=h
 exact rfl
theorem k55_mkM (w : World) (base : Nat) (ok : Nat → Prop) (x : S55)  : k55.M w base ok x [.string x.f0,.string x.f1]:=⟨[.string x.f0],[.string x.f1],rfl,rfl,rfl⟩
def rd_T55 (xs : List S55) (i : Int) : S55:=xs.getD i.toNat z55
theorem at_T55 {w : World} {A : Option Addr} {n : Nat} {xs : List S55} (h : Kd.C k55 w A n xs) (i : Int) (h0 : 0 ≤ i) (h1 : i < n) : ∃ ad ,A = some ad ∧ w.cell? (ad.add (i.toNat * 2)) = some (.string (rd_T55 xs i).f0) ∧ w.cell? ⟨(ad.add (i.toNat * 2)).block,(ad.add (i.toNat * 2)).off + 1,none⟩ = some (.string (rd_T55 xs i).f1):=by
 obtain ⟨ad,c,e,_,hK,hc0⟩:=Kd.C_get h z55 i h0 h1
 have hc : ∀ j u,c[j]? = some u → w.cell? (ad.add (i.toNat * 2 + j)) = some u:=hc0
 obtain rfl:=k55_open hK
 exact ⟨ad,e,hc 0 _ rfl,by rw [← add_field _ _ 1 (by omega)];exact hc 1 _ rfl⟩

def rd_L8 (xs : List (List ByteArray)) (i : Int) : (List ByteArray):=xs.getD i.toNat ([] : List ByteArray)
/-! #### struct type 137 -/
structure S137 where
 f0 : Int
 f1 : Int
def z137 : S137:=⟨(0 : Int),(0 : Int)⟩
def k137 : Kd S137:=Kd.iso (Kd.pair (Kd.int .u8) (Kd.int .u8)) (fun x : S137 => (x.f0,x.f1))
def rd_T137 (xs : List S137) (i : Int) : S137:=xs.getD i.toNat z137
/-! #### struct type 74 -/
structure S74 where
 f0 : (List Int)
 f1 : Int
 f2 : Int
def z74 : S74:=⟨([] : List Int),(0 : Int),(0 : Int)⟩
def k74 : Kd S74:=Kd.iso (Kd.pair (Kd.slice 5 (Kd.int .u8)) (Kd.pair (Kd.int .i64) (Kd.int .i64))) (fun x : S74 => (x.f0,x.f1,x.f2))
def rd_T74 (xs : List S74) (i : Int) : S74:=xs.getD i.toNat z74
/-! #### struct type 23 -/
structure S23 where
 f0 : ByteArray
 f1 : ByteArray
 f2 : ByteArray
def z23 : S23:=⟨(⟨#[]⟩ : ByteArray),(⟨#[]⟩ : ByteArray),(⟨#[]⟩ : ByteArray)⟩
def k23 : Kd S23:=Kd.iso (Kd.pair Kd.string (Kd.pair Kd.string Kd.string)) (fun x : S23 => (x.f0,x.f1,x.f2))
def rd_T23 (xs : List S23) (i : Int) : S23:=xs.getD i.toNat z23
end
section
/-! ### spec_StatusWord: function 28 -/
def spec_StatusWord.f (a0 : Int) : Option (ByteArray):=if a0 = 200 then (some (⟨#[79,75]⟩ : ByteArray)) else (if a0 = 302 then (some (⟨#[70,111,117,110,100]⟩ : ByteArray)) else (if a0 = 400 then (some (⟨#[66,97,100,32,82,101,113,117,101,115,116]⟩ : ByteArray)) else (if a0 = 403 then (some (⟨#[70,111,114,98,105,100,100,101,110]⟩ : ByteArray)) else (if a0 = 404 then (some (⟨#[78,111,116,32,70,111,117,110,100]⟩ : ByteArray)) else (if a0 = 429 then (some (⟨#[84,111,111,32,77,97,110,121,32,82,101,113,117,101,115,116,115]⟩ : ByteArray)) else (if a0 = 503 then (some (⟨#[83,101,114,118,105,99,101,32,85,110,97,118,97,105,108,97,98,108,101]⟩ : ByteArray)) else (some (⟨#[]⟩ : ByteArray))))))))
set_option maxHeartbeats 8000000 in
set_option maxRecDepth 100000 in
theorem spec_StatusWord.calls (a0 : Int) (r : ByteArray) (w : World) (h : spec_StatusWord.f a0 = some r) :
  Calls Tryd.prog 28 #[.int .i64 a0] w fun e w' => e = .returned (.string r) ∧ Drawn0 w w':=by
 have H : (if a0 = 200 then (some (⟨#[79,75]⟩ : ByteArray)) else (if a0 = 302 then (some (⟨#[70,111,117,110,100]⟩ : ByteArray)) else (if a0 = 400 then (some (⟨#[66,97,100,32,82,101,113,117,101,115,116]⟩ : ByteArray)) else (if a0 = 403 then (some (⟨#[70,111,114,98,105,100,100,101,110]⟩ : ByteArray)) else (if a0 = 404 then (some (⟨#[78,111,116,32,70,111,117,110,100]⟩ : ByteArray)) else (if a0 = 429 then (some (⟨#[84,111,111,32,77,97,110,121,32,82,101,113,117,101,115,116,115]⟩ : ByteArray)) else (if a0 = 503 then (some (⟨#[83,101,114,118,105,99,101,32,85,110,97,118,97,105,108,97,98,108,101]⟩ : ByteArray)) else (some (⟨#[]⟩ : ByteArray))))))))) = some r:=h
 clear h
 by_cases c2 : a0 = 200
 ·rw [if_pos c2] at H
  have c2b0 : (a0 == 200) = true:=beq_iff_eq.mpr c2
  have c2b1 : (a0 != 200) = false:=bne_eq_false_iff_eq.mpr c2
  clear c2
  obtain rfl:=Option.some.inj H
  go_enter Tryd.func28,Tryd.ntmps28
  go_wp2
  go_ret
  exact ⟨by first | rfl|(simp;done)|(simp [*];done)|(simp [ne_nil_b];done)|(simp [ne_nil_b, *];done),by repeat (first|exact Drawn0.refl _|apply Drawn0.step)⟩
 ·rw [if_neg c2] at H
  have c2b0 : (a0 == 200) = false:=beq_eq_false_iff_ne.mpr c2
  have c2b1 : (a0 != 200) = true:=bne_iff_ne.mpr c2
  by_cases c3 : a0 = 302
  ·rw [if_pos c3] at H
   have c3b0 : (a0 == 302) = true:=beq_iff_eq.mpr c3
   have c3b1 : (a0 != 302) = false:=bne_eq_false_iff_eq.mpr c3
   clear c3
   obtain rfl:=Option.some.inj H
   go_enter Tryd.func28,Tryd.ntmps28
   go_wp2
   go_ret
   exact ⟨by first | rfl|(simp;done)|(simp [*];done)|(simp [ne_nil_b];done)|(simp [ne_nil_b, *];done),by repeat (first|exact Drawn0.refl _|apply Drawn0.step)⟩
  ·rw [if_neg c3] at H
   have c3b0 : (a0 == 302) = false:=beq_eq_false_iff_ne.mpr c3
   have c3b1 : (a0 != 302) = true:=bne_iff_ne.mpr c3
   by_cases c4 : a0 = 400
   ·rw [if_pos c4] at H
    have c4b0 : (a0 == 400) = true:=beq_iff_eq.mpr c4
    have c4b1 : (a0 != 400) = false:=bne_eq_false_iff_eq.mpr c4
    clear c4
    obtain rfl:=Option.some.inj H
    go_enter Tryd.func28,Tryd.ntmps28
    go_wp2
    go_ret
    exact ⟨by first | rfl|(simp;done)|(simp [*];done)|(simp [ne_nil_b];done)|(simp [ne_nil_b, *];done),by repeat (first|exact Drawn0.refl _|apply Drawn0.step)⟩
   ·rw [if_neg c4] at H
    have c4b0 : (a0 == 400) = false:=beq_eq_false_iff_ne.mpr c4
    have c4b1 : (a0 != 400) = true:=bne_iff_ne.mpr c4
    by_cases c5 : a0 = 403
    ·rw [if_pos c5] at H
     have c5b0 : (a0 == 403) = true:=beq_iff_eq.mpr c5
     have c5b1 : (a0 != 403) = false:=bne_eq_false_iff_eq.mpr c5
     clear c5
     obtain rfl:=Option.some.inj H
     go_enter Tryd.func28,Tryd.ntmps28
     go_wp2
     go_ret
     exact ⟨by first | rfl|(simp;done)|(simp [*];done)|(simp [ne_nil_b];done)|(simp [ne_nil_b, *];done),by repeat (first|exact Drawn0.refl _|apply Drawn0.step)⟩
    ·rw [if_neg c5] at H
     have c5b0 : (a0 == 403) = false:=beq_eq_false_iff_ne.mpr c5
     have c5b1 : (a0 != 403) = true:=bne_iff_ne.mpr c5
     by_cases c6 : a0 = 404
     ·rw [if_pos c6] at H
      have c6b0 : (a0 == 404) = true:=beq_iff_eq.mpr c6
      have c6b1 : (a0 != 404) = false:=bne_eq_false_iff_eq.mpr c6
      clear c6
      obtain rfl:=Option.some.inj H
      go_enter Tryd.func28,Tryd.ntmps28
      go_wp2
      go_ret
      exact ⟨by first | rfl|(simp;done)|(simp [*];done)|(simp [ne_nil_b];done)|(simp [ne_nil_b, *];done),by repeat (first|exact Drawn0.refl _|apply Drawn0.step)⟩
     ·rw [if_neg c6] at H
      have c6b0 : (a0 == 404) = false:=beq_eq_false_iff_ne.mpr c6
      have c6b1 : (a0 != 404) = true:=bne_iff_ne.mpr c6
      by_cases c7 : a0 = 429
      ·rw [if_pos c7] at H
       have c7b0 : (a0 == 429) = true:=beq_iff_eq.mpr c7
       have c7b1 : (a0 != 429) = false:=bne_eq_false_iff_eq.mpr c7
       clear c7
       obtain rfl:=Option.some.inj H
       go_enter Tryd.func28,Tryd.ntmps28
       go_wp2
       go_ret
       exact ⟨by first | rfl|(simp;done)|(simp [*];done)|(simp [ne_nil_b];done)|(simp [ne_nil_b, *];done),by repeat (first|exact Drawn0.refl _|apply Drawn0.step)⟩
      ·rw [if_neg c7] at H
       have c7b0 : (a0 == 429) = false:=beq_eq_false_iff_ne.mpr c7
       have c7b1 : (a0 != 429) = true:=bne_iff_ne.mpr c7
       by_cases c8 : a0 = 503
       ·rw [if_pos c8] at H
        have c8b0 : (a0 == 503) = true:=beq_iff_eq.mpr c8
        have c8b1 : (a0 != 503) = false:=bne_eq_false_iff_eq.mpr c8
        clear c8
        obtain rfl:=Option.some.inj H
        go_enter Tryd.func28,Tryd.ntmps28
        go_wp2
        go_ret
        exact ⟨by first | rfl|(simp;done)|(simp [*];done)|(simp [ne_nil_b];done)|(simp [ne_nil_b, *];done),by repeat (first|exact Drawn0.refl _|apply Drawn0.step)⟩
       ·rw [if_neg c8] at H
        have c8b0 : (a0 == 503) = false:=beq_eq_false_iff_ne.mpr c8
        have c8b1 : (a0 != 503) = true:=bne_iff_ne.mpr c8
        obtain rfl:=Option.some.inj H
        go_enter Tryd.func28,Tryd.ntmps28
        go_wp2
        go_ret
        exact ⟨by first | rfl|(simp;done)|(simp [*];done)|(simp [ne_nil_b];done)|(simp [ne_nil_b, *];done),by repeat (first|exact Drawn0.refl _|apply Drawn0.step)⟩
end
section
/-! ### spec_l00Letter: function 54 -/
def spec_l00Letter.f (a0 : Int) : Option (Bool):=if a0 ≥ 97 then (if a0 ≤ 122 then (some true) else (if a0 ≥ 65 then (if a0 ≤ 90 then (some true) else (some (a0 == 95))) else (some (a0 == 95)))) else (if a0 ≥ 65 then (if a0 ≤ 90 then (some true) else (some (a0 == 95))) else (some (a0 == 95)))
set_option maxHeartbeats 8000000 in
set_option maxRecDepth 100000 in
theorem spec_l00Letter.calls (a0 : Int) (r : Bool) (w : World) (h : spec_l00Letter.f a0 = some r) :
  Calls Tryd.prog 54 #[.int .u8 a0] w fun e w' => e = .returned (.bool r) ∧ Drawn0 w w':=by
 have H : (if a0 ≥ 97 then (if a0 ≤ 122 then (some true) else (if a0 ≥ 65 then (if a0 ≤ 90 then (some true) else (some (a0 == 95))) else (some (a0 == 95)))) else (if a0 ≥ 65 then (if a0 ≤ 90 then (some true) else (some (a0 == 95))) else (some (a0 == 95)))) = some r:=h
 clear h
 by_cases c2 : a0 ≥ 97
 ·rw [if_pos c2] at H
  have c2b0 : decide (97 ≤ a0) = true:=decide_eq_true c2
  clear c2
  by_cases c3 : a0 ≤ 122
  ·rw [if_pos c3] at H
   have c3b0 : decide (a0 ≤ 122) = true:=decide_eq_true c3
   clear c3
   obtain rfl:=Option.some.inj H
   go_enter Tryd.func54,Tryd.ntmps54
   go_wp2
   go_ret
   exact ⟨by first | rfl|(simp;done)|(simp [*];done)|(simp [ne_nil_b];done)|(simp [ne_nil_b, *];done),by repeat (first|exact Drawn0.refl _|apply Drawn0.step)⟩
  ·rw [if_neg c3] at H
   have c3b0 : decide (a0 ≤ 122) = false:=decide_eq_false c3
   clear c3
   by_cases c4 : a0 ≥ 65
   ·rw [if_pos c4] at H
    have c4b0 : decide (65 ≤ a0) = true:=decide_eq_true c4
    clear c4
    by_cases c5 : a0 ≤ 90
    ·rw [if_pos c5] at H
     have c5b0 : decide (a0 ≤ 90) = true:=decide_eq_true c5
     clear c5
     obtain rfl:=Option.some.inj H
     go_enter Tryd.func54,Tryd.ntmps54
     go_wp2
     go_ret
     exact ⟨by first | rfl|(simp;done)|(simp [*];done)|(simp [ne_nil_b];done)|(simp [ne_nil_b, *];done),by repeat (first|exact Drawn0.refl _|apply Drawn0.step)⟩
    ·rw [if_neg c5] at H
     have c5b0 : decide (a0 ≤ 90) = false:=decide_eq_false c5
     clear c5
     obtain rfl:=Option.some.inj H
     go_enter Tryd.func54,Tryd.ntmps54
     go_wp2
     go_ret
     exact ⟨by first | rfl|(simp;done)|(simp [*];done)|(simp [ne_nil_b];done)|(simp [ne_nil_b, *];done),by repeat (first|exact Drawn0.refl _|apply Drawn0.step)⟩
   ·rw [if_neg c4] at H
    have c4b0 : decide (65 ≤ a0) = false:=decide_eq_false c4
    clear c4
    obtain rfl:=Option.some.inj H
    go_enter Tryd.func54,Tryd.ntmps54
    go_wp2
    go_ret
    exact ⟨by first | rfl|(simp;done)|(simp [*];done)|(simp [ne_nil_b];done)|(simp [ne_nil_b, *];done),by repeat (first|exact Drawn0.refl _|apply Drawn0.step)⟩
 ·rw [if_neg c2] at H
  have c2b0 : decide (97 ≤ a0) = false:=decide_eq_false c2
  clear c2
  by_cases c6 : a0 ≥ 65
  ·rw [if_pos c6] at H
   have c6b0 : decide (65 ≤ a0) = true:=decide_eq_true c6
   clear c6
   by_cases c7 : a0 ≤ 90
   ·rw [if_pos c7] at H
    have c7b0 : decide (a0 ≤ 90) = true:=decide_eq_true c7
    clear c7
    obtain rfl:=Option.some.inj H
    go_enter Tryd.func54,Tryd.ntmps54
    go_wp2
    go_ret
    exact ⟨by first | rfl|(simp;done)|(simp [*];done)|(simp [ne_nil_b];done)|(simp [ne_nil_b, *];done),by repeat (first|exact Drawn0.refl _|apply Drawn0.step)⟩
   ·rw [if_neg c7] at H
    have c7b0 : decide (a0 ≤ 90) = false:=decide_eq_false c7
    clear c7
    obtain rfl:=Option.some.inj H
    go_enter Tryd.func54,Tryd.ntmps54
    go_wp2
    go_ret
    exact ⟨by first | rfl|(simp;done)|(simp [*];done)|(simp [ne_nil_b];done)|(simp [ne_nil_b, *];done),by repeat (first|exact Drawn0.refl _|apply Drawn0.step)⟩
  ·rw [if_neg c6] at H
   have c6b0 : decide (65 ≤ a0) = false:=decide_eq_false c6
   clear c6
   obtain rfl:=Option.some.inj H
   go_enter Tryd.func54,Tryd.ntmps54
   go_wp2
   go_ret
   exact ⟨by first | rfl|(simp;done)|(simp [*];done)|(simp [ne_nil_b];done)|(simp [ne_nil_b, *];done),by repeat (first|exact Drawn0.refl _|apply Drawn0.step)⟩
end
section
/-! ### spec_l00Digit: function 55 -/
def spec_l00Digit.f (a0 : Int) : Option (Bool):=if a0 ≥ 48 then (some (decide (a0 ≤ 57))) else (some false)
set_option maxHeartbeats 8000000 in
set_option maxRecDepth 100000 in
theorem spec_l00Digit.calls (a0 : Int) (r : Bool) (w : World) (h : spec_l00Digit.f a0 = some r) :
  Calls Tryd.prog 55 #[.int .u8 a0] w fun e w' => e = .returned (.bool r) ∧ Drawn0 w w':=by
 have H : (if a0 ≥ 48 then (some (decide (a0 ≤ 57))) else (some false)) = some r:=h
 clear h
 by_cases c2 : a0 ≥ 48
 ·rw [if_pos c2] at H
  have c2b0 : decide (48 ≤ a0) = true:=decide_eq_true c2
  clear c2
  obtain rfl:=Option.some.inj H
  go_enter Tryd.func55,Tryd.ntmps55
  go_wp2
  go_ret
  exact ⟨by first | rfl|(simp;done)|(simp [*];done)|(simp [ne_nil_b];done)|(simp [ne_nil_b, *];done),by repeat (first|exact Drawn0.refl _|apply Drawn0.step)⟩
 ·rw [if_neg c2] at H
  have c2b0 : decide (48 ≤ a0) = false:=decide_eq_false c2
  clear c2
  obtain rfl:=Option.some.inj H
  go_enter Tryd.func55,Tryd.ntmps55
  go_wp2
  go_ret
  exact ⟨by first | rfl|(simp;done)|(simp [*];done)|(simp [ne_nil_b];done)|(simp [ne_nil_b, *];done),by repeat (first|exact Drawn0.refl _|apply Drawn0.step)⟩
end
section
/-! ### spec_l11Path: function 33 -/
mutual
def spec_l11Path.j0 : Nat → ByteArray → Bool → Option (Bool)
 | 0,_,_ => none
 | k + 1,x0,x17 => if x17 = true then (some false) else (spec_l11Path.l0 k x0 0)
def spec_l11Path.l0 : Nat → ByteArray → Int → Option (Bool)
 | 0,_,_ => none
 | k + 1,x0,x3 => if x3 < (x0.size : Int) then (if 0 ≤ x3 then ((spec_l00Letter.f (bt x0 x3)).bind fun t102 => (if t102 = true then (spec_l11Path.l0 k x0 (wrap64 (x3 + 1))) else ((spec_l00Digit.f (bt x0 x3)).bind fun t103 => (if t103 = true then (spec_l11Path.l0 k x0 (wrap64 (x3 + 1))) else (if (bt x0 x3) = 47 then (spec_l11Path.l0 k x0 (wrap64 (x3 + 1))) else (if (bt x0 x3) = 46 then (spec_l11Path.l0 k x0 (wrap64 (x3 + 1))) else (if (bt x0 x3) = 45 then (spec_l11Path.l0 k x0 (wrap64 (x3 + 1))) else (if (bt x0 x3) = 63 then (spec_l11Path.l0 k x0 (wrap64 (x3 + 1))) else (if (bt x0 x3) = 61 then (spec_l11Path.l0 k x0 (wrap64 (x3 + 1))) else (if (bt x0 x3) = 95 then (spec_l11Path.l0 k x0 (wrap64 (x3 + 1))) else (some false))))))))))) else (none)) else (some true)
end
def spec_l11Path.f (k : Nat) (a0 : ByteArray) : Option (Bool):=if (a0.size : Int) < 1 then (spec_l11Path.j0 k a0 true) else (if (a0.size : Int) > 40 then (spec_l11Path.j0 k a0 true) else (if 0 < (a0.size : Int) then (spec_l11Path.j0 k a0 ((bt a0 0) != 47)) else (none)))
theorem spec_l11Path.mono_l : ∀ k,(∀ y0 y1,LeO (spec_l11Path.j0 k y0 y1) (spec_l11Path.j0 (k + 1) y0 y1)) ∧ (∀ y0 y1,LeO (spec_l11Path.l0 k y0 y1) (spec_l11Path.l0 (k + 1) y0 y1))
 | 0 => ⟨fun _ _ r h => by simp [spec_l11Path.j0] at h,fun _ _ r h => by simp [spec_l11Path.l0] at h⟩
 | k + 1 => by
  obtain ⟨ih0,ih1⟩:=spec_l11Path.mono_l k
  refine ⟨?_,?_⟩
  ·intro y0 y1
   unfold spec_l11Path.j0
   repeat' first
   | (with_reducible exact ih0 _ _)
   | (with_reducible exact ih1 _ _)
   | (with_reducible exact LeO.refl _)
   | (with_reducible exact LeO.none _)
   | (with_reducible refine LeO.ite ?_ ?_)
   | (with_reducible refine LeO.bind ?_ (fun _ => ?_))
   | exact ih0 _ _
   | exact ih1 _ _
   | exact LeO.none _
   | refine LeO.ite ?_ ?_
   | refine LeO.bind ?_ (fun _ => ?_)
  ·intro y0 y1
   unfold spec_l11Path.l0
   repeat' first
   | (with_reducible exact ih0 _ _)
   | (with_reducible exact ih1 _ _)
   | (with_reducible exact LeO.refl _)
   | (with_reducible exact LeO.none _)
   | (with_reducible refine LeO.ite ?_ ?_)
   | (with_reducible refine LeO.bind ?_ (fun _ => ?_))
   | exact ih0 _ _
   | exact ih1 _ _
   | exact LeO.none _
   | refine LeO.ite ?_ ?_
   | refine LeO.bind ?_ (fun _ => ?_)
theorem spec_l11Path.mono : ∀ a0 k,LeO (spec_l11Path.f k a0) (spec_l11Path.f (k + 1) a0):=by
 intro a0 k
 obtain ⟨ih0,ih1⟩:=spec_l11Path.mono_l k
 unfold spec_l11Path.f
 repeat' first
   | (with_reducible exact ih0 _ _)
   | (with_reducible exact ih1 _ _)
   | (with_reducible exact LeO.refl _)
   | (with_reducible exact LeO.none _)
   | (with_reducible refine LeO.ite ?_ ?_)
   | (with_reducible refine LeO.bind ?_ (fun _ => ?_))
   | exact ih0 _ _
   | exact ih1 _ _
   | exact LeO.none _
   | refine LeO.ite ?_ ?_
   | refine LeO.bind ?_ (fun _ => ?_)
set_option maxHeartbeats 8000000 in
set_option maxRecDepth 100000 in
theorem spec_l11Path.calls (k : Nat) (a0 : ByteArray) (r : Bool) (w : World) (h : spec_l11Path.f k a0 = some r) :
  Calls Tryd.prog 33 #[.string a0] w fun e w' => e = .returned (.bool r) ∧ Drawn0 w w':=by
 have H : (if (a0.size : Int) < 1 then (spec_l11Path.j0 k a0 true) else (if (a0.size : Int) > 40 then (spec_l11Path.j0 k a0 true) else (if 0 < (a0.size : Int) then (spec_l11Path.j0 k a0 ((bt a0 0) != 47)) else (none)))) = some r:=h
 clear h
 have HC2:=aMk H
 clear H
 go_enter Tryd.func33,Tryd.ntmps33
 go_upto_region 1 with (fail)
 go_cut [17] (fun v17 wc => ∃ (kq : Nat) (x17_1 : Bool),v17 = .bool x17_1 ∧ Aside0 (spec_l11Path.j0 kq a0 x17_1 = some r) ∧ Aside0 (kq ≤ k) ∧ Drawn0 w wc)
 case first =>
  have H:=HC2.out
  clear HC2
  by_cases c3 : (a0.size : Int) < 1
  ·rw [if_pos c3] at H
   have c3b0 : decide ((a0.size : Int) < 1) = true:=decide_eq_true c3
   have c3b1 : decide (a0.size < 1) = true:=decide_eq_true (by omega)
   clear c3
   (first|rw [c3b0]|(simp only [i64_w,i32_w];rw [c3b0]) | skip)
   have H':=aMk H
   clear H
   go_wp2
   go_meet
   case rel => exact ⟨_,(true),(by first | rfl|(simp;done)|(simp [*];done)|(simp [ne_nil_b];done)|(simp [ne_nil_b, *];done)),H',⟨by first | omega|exact Nat.le_refl _⟩,by repeat (first|exact Drawn0.refl _|apply Drawn0.step)⟩
  ·rw [if_neg c3] at H
   have c3b0 : decide ((a0.size : Int) < 1) = false:=decide_eq_false c3
   have c3b1 : decide (a0.size < 1) = false:=decide_eq_false (by omega)
   clear c3
   (first|rw [c3b0]|(simp only [i64_w,i32_w];rw [c3b0]) | skip)
   by_cases c4 : (a0.size : Int) > 40
   ·rw [if_pos c4] at H
    have c4b0 : decide (40 < (a0.size : Int)) = true:=decide_eq_true c4
    have c4b1 : decide (40 < a0.size) = true:=decide_eq_true (by omega)
    clear c4
    have H':=aMk H
    clear H
    go_wp2
    go_meet
    case rel => exact ⟨_,(true),(by first | rfl|(simp;done)|(simp [*];done)|(simp [ne_nil_b];done)|(simp [ne_nil_b, *];done)),H',⟨by first | omega|exact Nat.le_refl _⟩,by repeat (first|exact Drawn0.refl _|apply Drawn0.step)⟩
   ·rw [if_neg c4] at H
    have c4b0 : decide (40 < (a0.size : Int)) = false:=decide_eq_false c4
    have c4b1 : decide (40 < a0.size) = false:=decide_eq_false (by omega)
    clear c4
    by_cases c5 : 0 < (a0.size : Int)
    ·rw [if_pos c5] at H
     have c5b0 : decide (0 < (a0.size : Int)) = true:=decide_eq_true c5
     have c5b1 : decide (0 < a0.size) = true:=decide_eq_true (by omega)
     clear c5
     have H':=aMk H
     clear H
     have p6 : 0 ≤ (0 : Int):=(by omega)
     have q6 : 0 < a0.size:=(by have : (0 : Int) < (a0.size : Int):=of_decide_eq_true (by first|(with_reducible assumption) | assumption);omega)
     have hx6 : ∀ h : 0 < a0.size,((a0[0]'h).toNat : Int) = bt a0 0:=bt_at a0 0
     clear p6
     have qi6 : (0 < (a0.size : Int)) = True:=eq_true (of_decide_eq_true (by first|(with_reducible assumption) | assumption))
     replace q6:=eq_true q6
     go_wp2
     go_meet
     case rel => exact ⟨_,(((bt a0 0) != 47)),(by first | rfl|(simp;done)|(simp [*];done)|(simp [ne_nil_b];done)|(simp [ne_nil_b, *];done)),H',⟨by first | omega|exact Nat.le_refl _⟩,by repeat (first|exact Drawn0.refl _|apply Drawn0.step)⟩
    ·rw [if_neg c5] at H
     exact absurd H (by simp)
 case rest =>
  clear HC2
  try clear p2
  try clear c3
  try clear c3b0
  try clear c3b1
  try clear c4
  try clear c4b0
  try clear c4b1
  try clear c5
  try clear c5b0
  try clear c5b1
  try clear p6
  try clear q6
  try clear hx6
  try clear qi6
  try clear p6
  try clear q6
  obtain ⟨kq,x17_1,rfl,HA,HJ1,⟨mc1,rfl⟩⟩:=hcut
  cases kq with
  | zero => exact absurd HA.out (by simp [spec_l11Path.j0])
  | succ kj1 =>
   have H:=HA.out
   clear HA
   simp only [spec_l11Path.j0] at H
   by_cases c7 : x17_1 = true
   ·subst c7
    have H1 : (some false) = some r:=by rw [if_pos rfl] at H;exact H
    clear H
    have H:=H1
    clear H1
    obtain rfl:=Option.some.inj H
    go_wp2
    go_ret
    exact ⟨by first | rfl|(simp;done)|(simp [*];done)|(simp [ne_nil_b];done)|(simp [ne_nil_b, *];done),by repeat (first|exact Drawn0.refl _|apply Drawn0.step)⟩
   ·replace c7:=Bool.eq_false_iff.mpr c7
    subst c7
    have H1 : (spec_l11Path.l0 kj1 a0 0) = some r:=by rw [if_neg (show ¬ (false = true) by decide)] at H;exact H
    clear H
    have H:=H1
    clear H1
    have H':=aMk H
    clear H
    go_wp2
    go_loopg [3] kj1 (fun kq v3 w' => ∃ (x3_2 : Int),v3 = .int .i64 x3_2 ∧ Aside0 (spec_l11Path.l0 kq a0 x3_2 = some r) ∧ Aside0 (kq ≤ kj1) ∧ Drawn0 w w')
    case atStart => exact ⟨(0),(by first | rfl|(simp;done)|(simp [*];done)|(simp [ne_nil_b];done)|(simp [ne_nil_b, *];done)),H',⟨Nat.le_refl _⟩,by repeat (first|exact Drawn0.refl _|apply Drawn0.step)⟩
    case round =>
     clear H'
     try clear c1
     try clear p2
     try clear c3
     try clear c3b0
     try clear c3b1
     try clear c4
     try clear c4b0
     try clear c4b1
     try clear c5
     try clear c5b0
     try clear c5b1
     try clear p6
     try clear q6
     try clear hx6
     try clear qi6
     try clear c7
     try clear p2
     try clear p6
     try clear q6
     obtain ⟨x3_2,rfl,HA,HK2,⟨m2,rfl⟩⟩:=hrel
     cases gk with
     | zero => exact absurd HA.out (by simp [spec_l11Path.l0])
     | succ k2 =>
      have H:=HA.out
      clear HA
      simp only [spec_l11Path.l0] at H
      by_cases c8 : x3_2 < (a0.size : Int)
      ·rw [if_pos c8] at H
       have c8b0 : decide (x3_2 < (a0.size : Int)) = true:=decide_eq_true c8
       clear c8
       by_cases c9 : 0 ≤ x3_2
       ·rw [if_pos c9] at H
        have c9b0 : decide (0 ≤ x3_2) = true:=decide_eq_true c9
        clear c9
        replace H:=Option.bind_eq_some_iff.mp H
        obtain ⟨t102,A110,H⟩:=H
        replace H : (if t102 = true then (spec_l11Path.l0 k2 a0 (wrap64 (x3_2 + 1))) else ((spec_l00Digit.f (bt a0 x3_2)).bind fun t103 => (if t103 = true then (spec_l11Path.l0 k2 a0 (wrap64 (x3_2 + 1))) else (if (bt a0 x3_2) = 47 then (spec_l11Path.l0 k2 a0 (wrap64 (x3_2 + 1))) else (if (bt a0 x3_2) = 46 then (spec_l11Path.l0 k2 a0 (wrap64 (x3_2 + 1))) else (if (bt a0 x3_2) = 45 then (spec_l11Path.l0 k2 a0 (wrap64 (x3_2 + 1))) else (if (bt a0 x3_2) = 63 then (spec_l11Path.l0 k2 a0 (wrap64 (x3_2 + 1))) else (if (bt a0 x3_2) = 61 then (spec_l11Path.l0 k2 a0 (wrap64 (x3_2 + 1))) else (if (bt a0 x3_2) = 95 then (spec_l11Path.l0 k2 a0 (wrap64 (x3_2 + 1))) else (some false)))))))))) = some r:=H
        have A11:=aMk A110
        clear A110
        by_cases c12 : t102 = true
        ·subst c12
         have H1 : (spec_l11Path.l0 k2 a0 (wrap64 (x3_2 + 1))) = some r:=by rw [if_pos rfl] at H;exact H
         clear H
         have H:=H1
         clear H1
         have H':=aMk H
         clear H
         have p10 : 0 ≤ (x3_2 : Int):=of_decide_eq_true (by first|(with_reducible assumption) | assumption)
         have q10 : x3_2 < (a0.size : Int):=of_decide_eq_true (by first|(with_reducible assumption) | assumption)
         have hx10:=bt_at a0 x3_2
         replace p10:=eq_true p10
         replace q10:=eq_true q10
         go_wp2_with (first|((with_reducible refine gate_callee (f:=54) rfl ?_);refine goesL_ (some 28) rfl rfl Tryd.func54 (by kernel_rfl) rfl #[.int .u8 (bt a0 x3_2)] rfl (by (try simp only [List.map_toArray,List.map_cons,List.map_nil]);first | done | rfl|(simp only [List.length_drop,List.length_take];rfl)) ?_;(with_reducible refine (spec_l00Letter.calls (bt a0 x3_2) true _ A11.out).mono ?_);rintro e w' ⟨rfl,⟨nd,rfl⟩⟩;refine ⟨_,rfl,?_⟩))
         go_roundg k2
         case measure => have:=HJ1.out;have:=HK2.out;omega
         case rel => exact ⟨(wrap64 (x3_2 + 1)),(by first | rfl|(simp;done)|(simp [*];done)|(simp [ne_nil_b];done)|(simp [ne_nil_b, *];done)),H',⟨by have:=HJ1.out;have:=HK2.out;omega⟩,by repeat (first|exact Drawn0.refl _|apply Drawn0.step)⟩
        ·replace c12:=Bool.eq_false_iff.mpr c12
         subst c12
         have H1 : ((spec_l00Digit.f (bt a0 x3_2)).bind fun t103 => (if t103 = true then (spec_l11Path.l0 k2 a0 (wrap64 (x3_2 + 1))) else (if (bt a0 x3_2) = 47 then (spec_l11Path.l0 k2 a0 (wrap64 (x3_2 + 1))) else (if (bt a0 x3_2) = 46 then (spec_l11Path.l0 k2 a0 (wrap64 (x3_2 + 1))) else (if (bt a0 x3_2) = 45 then (spec_l11Path.l0 k2 a0 (wrap64 (x3_2 + 1))) else (if (bt a0 x3_2) = 63 then (spec_l11Path.l0 k2 a0 (wrap64 (x3_2 + 1))) else (if (bt a0 x3_2) = 61 then (spec_l11Path.l0 k2 a0 (wrap64 (x3_2 + 1))) else (if (bt a0 x3_2) = 95 then (spec_l11Path.l0 k2 a0 (wrap64 (x3_2 + 1))) else (some false))))))))) = some r:=by rw [if_neg (show ¬ (false = true) by decide)] at H;exact H
         clear H
         have H:=H1
         clear H1
         replace H:=Option.bind_eq_some_iff.mp H
         obtain ⟨t103,A130,H⟩:=H
         replace H : (if t103 = true then (spec_l11Path.l0 k2 a0 (wrap64 (x3_2 + 1))) else (if (bt a0 x3_2) = 47 then (spec_l11Path.l0 k2 a0 (wrap64 (x3_2 + 1))) else (if (bt a0 x3_2) = 46 then (spec_l11Path.l0 k2 a0 (wrap64 (x3_2 + 1))) else (if (bt a0 x3_2) = 45 then (spec_l11Path.l0 k2 a0 (wrap64 (x3_2 + 1))) else (if (bt a0 x3_2) = 63 then (spec_l11Path.l0 k2 a0 (wrap64 (x3_2 + 1))) else (if (bt a0 x3_2) = 61 then (spec_l11Path.l0 k2 a0 (wrap64 (x3_2 + 1))) else (if (bt a0 x3_2) = 95 then (spec_l11Path.l0 k2 a0 (wrap64 (x3_2 + 1))) else (some false)))))))) = some r:=H
         have A13:=aMk A130
         clear A130
         by_cases c14 : t103 = true
         ·subst c14
          have H1 : (spec_l11Path.l0 k2 a0 (wrap64 (x3_2 + 1))) = some r:=by rw [if_pos rfl] at H;exact H
          clear H
          have H:=H1
          clear H1
          have H':=aMk H
          clear H
          have p10 : 0 ≤ (x3_2 : Int):=of_decide_eq_true (by first|(with_reducible assumption) | assumption)
          have q10 : x3_2 < (a0.size : Int):=of_decide_eq_true (by first|(with_reducible assumption) | assumption)
          have hx10:=bt_at a0 x3_2
          replace p10:=eq_true p10
          replace q10:=eq_true q10
          go_wp2_with (first|((with_reducible refine gate_callee (f:=54) rfl ?_);refine goesL_ (some 28) rfl rfl Tryd.func54 (by kernel_rfl) rfl #[.int .u8 (bt a0 x3_2)] rfl (by (try simp only [List.map_toArray,List.map_cons,List.map_nil]);first | done | rfl|(simp only [List.length_drop,List.length_take];rfl)) ?_;(with_reducible refine (spec_l00Letter.calls (bt a0 x3_2) false _ A11.out).mono ?_);rintro e w' ⟨rfl,⟨nd,rfl⟩⟩;refine ⟨_,rfl,?_⟩)|(go_at_call 55;(with_reducible refine (spec_l00Digit.calls (bt a0 x3_2) true _ A13.out).mono ?_);rintro e w' ⟨rfl,⟨nd,rfl⟩⟩))
          go_roundg k2
          case measure => have:=HJ1.out;have:=HK2.out;omega
          case rel => exact ⟨(wrap64 (x3_2 + 1)),(by first | rfl|(simp;done)|(simp [*];done)|(simp [ne_nil_b];done)|(simp [ne_nil_b, *];done)),H',⟨by have:=HJ1.out;have:=HK2.out;omega⟩,by repeat (first|exact Drawn0.refl _|apply Drawn0.step)⟩
         ·replace c14:=Bool.eq_false_iff.mpr c14
          subst c14
          have H1 : (if (bt a0 x3_2) = 47 then (spec_l11Path.l0 k2 a0 (wrap64 (x3_2 + 1))) else (if (bt a0 x3_2) = 46 then (spec_l11Path.l0 k2 a0 (wrap64 (x3_2 + 1))) else (if (bt a0 x3_2) = 45 then (spec_l11Path.l0 k2 a0 (wrap64 (x3_2 + 1))) else (if (bt a0 x3_2) = 63 then (spec_l11Path.l0 k2 a0 (wrap64 (x3_2 + 1))) else (if (bt a0 x3_2) = 61 then (spec_l11Path.l0 k2 a0 (wrap64 (x3_2 + 1))) else (if (bt a0 x3_2) = 95 then (spec_l11Path.l0 k2 a0 (wrap64 (x3_2 + 1))) else (some false))))))) = some r:=by rw [if_neg (show ¬ (false = true) by decide)] at H;exact H
          clear H
          have H:=H1
          clear H1
          by_cases c15 : (bt a0 x3_2) = 47
          ·rw [if_pos c15] at H
           have c15b0 : ((bt a0 x3_2) == 47) = true:=beq_iff_eq.mpr c15
           have c15b1 : ((bt a0 x3_2) != 47) = false:=bne_eq_false_iff_eq.mpr c15
           clear c15
           have H':=aMk H
           clear H
           have p10 : 0 ≤ (x3_2 : Int):=of_decide_eq_true (by first|(with_reducible assumption) | assumption)
           have q10 : x3_2 < (a0.size : Int):=of_decide_eq_true (by first|(with_reducible assumption) | assumption)
           have hx10:=bt_at a0 x3_2
           replace p10:=eq_true p10
           replace q10:=eq_true q10
           go_wp2_with (first|((with_reducible refine gate_callee (f:=54) rfl ?_);refine goesL_ (some 28) rfl rfl Tryd.func54 (by kernel_rfl) rfl #[.int .u8 (bt a0 x3_2)] rfl (by (try simp only [List.map_toArray,List.map_cons,List.map_nil]);first | done | rfl|(simp only [List.length_drop,List.length_take];rfl)) ?_;(with_reducible refine (spec_l00Letter.calls (bt a0 x3_2) false _ A11.out).mono ?_);rintro e w' ⟨rfl,⟨nd,rfl⟩⟩;refine ⟨_,rfl,?_⟩)|(go_at_call 55;(with_reducible refine (spec_l00Digit.calls (bt a0 x3_2) false _ A13.out).mono ?_);rintro e w' ⟨rfl,⟨nd,rfl⟩⟩))
           go_roundg k2
           case measure => have:=HJ1.out;have:=HK2.out;omega
           case rel => exact ⟨(wrap64 (x3_2 + 1)),(by first | rfl|(simp;done)|(simp [*];done)|(simp [ne_nil_b];done)|(simp [ne_nil_b, *];done)),H',⟨by have:=HJ1.out;have:=HK2.out;omega⟩,by repeat (first|exact Drawn0.refl _|apply Drawn0.step)⟩
          ·rw [if_neg c15] at H
           have c15b0 : ((bt a0 x3_2) == 47) = false:=beq_eq_false_iff_ne.mpr c15
           have c15b1 : ((bt a0 x3_2) != 47) = true:=bne_iff_ne.mpr c15
           by_cases c16 : (bt a0 x3_2) = 46
           ·rw [if_pos c16] at H
            have c16b0 : ((bt a0 x3_2) == 46) = true:=beq_iff_eq.mpr c16
            have c16b1 : ((bt a0 x3_2) != 46) = false:=bne_eq_false_iff_eq.mpr c16
            clear c16
            have H':=aMk H
            clear H
            have p10 : 0 ≤ (x3_2 : Int):=of_decide_eq_true (by first|(with_reducible assumption) | assumption)
            have q10 : x3_2 < (a0.size : Int):=of_decide_eq_true (by first|(with_reducible assumption) | assumption)
            have hx10:=bt_at a0 x3_2
            replace p10:=eq_true p10
            replace q10:=eq_true q10
            go_wp2_with (first|((with_reducible refine gate_callee (f:=54) rfl ?_);refine goesL_ (some 28) rfl rfl Tryd.func54 (by kernel_rfl) rfl #[.int .u8 (bt a0 x3_2)] rfl (by (try simp only [List.map_toArray,List.map_cons,List.map_nil]);first | done | rfl|(simp only [List.length_drop,List.length_take];rfl)) ?_;(with_reducible refine (spec_l00Letter.calls (bt a0 x3_2) false _ A11.out).mono ?_);rintro e w' ⟨rfl,⟨nd,rfl⟩⟩;refine ⟨_,rfl,?_⟩)|(go_at_call 55;(with_reducible refine (spec_l00Digit.calls (bt a0 x3_2) false _ A13.out).mono ?_);rintro e w' ⟨rfl,⟨nd,rfl⟩⟩))
            go_roundg k2
            case measure => have:=HJ1.out;have:=HK2.out;omega
            case rel => exact ⟨(wrap64 (x3_2 + 1)),(by first | rfl|(simp;done)|(simp [*];done)|(simp [ne_nil_b];done)|(simp [ne_nil_b, *];done)),H',⟨by have:=HJ1.out;have:=HK2.out;omega⟩,by repeat (first|exact Drawn0.refl _|apply Drawn0.step)⟩
           ·rw [if_neg c16] at H
            have c16b0 : ((bt a0 x3_2) == 46) = false:=beq_eq_false_iff_ne.mpr c16
            have c16b1 : ((bt a0 x3_2) != 46) = true:=bne_iff_ne.mpr c16
            by_cases c17 : (bt a0 x3_2) = 45
            ·rw [if_pos c17] at H
             have c17b0 : ((bt a0 x3_2) == 45) = true:=beq_iff_eq.mpr c17
             have c17b1 : ((bt a0 x3_2) != 45) = false:=bne_eq_false_iff_eq.mpr c17
             clear c17
             have H':=aMk H
             clear H
             have p10 : 0 ≤ (x3_2 : Int):=of_decide_eq_true (by first|(with_reducible assumption) | assumption)
             have q10 : x3_2 < (a0.size : Int):=of_decide_eq_true (by first|(with_reducible assumption) | assumption)
             have hx10:=bt_at a0 x3_2
             replace p10:=eq_true p10
             replace q10:=eq_true q10
             go_wp2_with (first|((with_reducible refine gate_callee (f:=54) rfl ?_);refine goesL_ (some 28) rfl rfl Tryd.func54 (by kernel_rfl) rfl #[.int .u8 (bt a0 x3_2)] rfl (by (try simp only [List.map_toArray,List.map_cons,List.map_nil]);first | done | rfl|(simp only [List.length_drop,List.length_take];rfl)) ?_;(with_reducible refine (spec_l00Letter.calls (bt a0 x3_2) false _ A11.out).mono ?_);rintro e w' ⟨rfl,⟨nd,rfl⟩⟩;refine ⟨_,rfl,?_⟩)|(go_at_call 55;(with_reducible refine (spec_l00Digit.calls (bt a0 x3_2) false _ A13.out).mono ?_);rintro e w' ⟨rfl,⟨nd,rfl⟩⟩))
             go_roundg k2
             case measure => have:=HJ1.out;have:=HK2.out;omega
             case rel => exact ⟨(wrap64 (x3_2 + 1)),(by first | rfl|(simp;done)|(simp [*];done)|(simp [ne_nil_b];done)|(simp [ne_nil_b, *];done)),H',⟨by have:=HJ1.out;have:=HK2.out;omega⟩,by repeat (first|exact Drawn0.refl _|apply Drawn0.step)⟩
            ·rw [if_neg c17] at H
             have c17b0 : ((bt a0 x3_2) == 45) = false:=beq_eq_false_iff_ne.mpr c17
             have c17b1 : ((bt a0 x3_2) != 45) = true:=bne_iff_ne.mpr c17
             by_cases c18 : (bt a0 x3_2) = 63
             ·rw [if_pos c18] at H
              have c18b0 : ((bt a0 x3_2) == 63) = true:=beq_iff_eq.mpr c18
              have c18b1 : ((bt a0 x3_2) != 63) = false:=bne_eq_false_iff_eq.mpr c18
              clear c18
              have H':=aMk H
              clear H
              have p10 : 0 ≤ (x3_2 : Int):=of_decide_eq_true (by first|(with_reducible assumption) | assumption)
              have q10 : x3_2 < (a0.size : Int):=of_decide_eq_true (by first|(with_reducible assumption) | assumption)
              have hx10:=bt_at a0 x3_2
              replace p10:=eq_true p10
              replace q10:=eq_true q10
              go_wp2_with (first|((with_reducible refine gate_callee (f:=54) rfl ?_);refine goesL_ (some 28) rfl rfl Tryd.func54 (by kernel_rfl) rfl #[.int .u8 (bt a0 x3_2)] rfl (by (try simp only [List.map_toArray,List.map_cons,List.map_nil]);first | done | rfl|(simp only [List.length_drop,List.length_take];rfl)) ?_;(with_reducible refine (spec_l00Letter.calls (bt a0 x3_2) false _ A11.out).mono ?_);rintro e w' ⟨rfl,⟨nd,rfl⟩⟩;refine ⟨_,rfl,?_⟩)|(go_at_call 55;(with_reducible refine (spec_l00Digit.calls (bt a0 x3_2) false _ A13.out).mono ?_);rintro e w' ⟨rfl,⟨nd,rfl⟩⟩))
              go_roundg k2
              case measure => have:=HJ1.out;have:=HK2.out;omega
              case rel => exact ⟨(wrap64 (x3_2 + 1)),(by first | rfl|(simp;done)|(simp [*];done)|(simp [ne_nil_b];done)|(simp [ne_nil_b, *];done)),H',⟨by have:=HJ1.out;have:=HK2.out;omega⟩,by repeat (first|exact Drawn0.refl _|apply Drawn0.step)⟩
             ·rw [if_neg c18] at H
              have c18b0 : ((bt a0 x3_2) == 63) = false:=beq_eq_false_iff_ne.mpr c18
              have c18b1 : ((bt a0 x3_2) != 63) = true:=bne_iff_ne.mpr c18
              by_cases c19 : (bt a0 x3_2) = 61
              ·rw [if_pos c19] at H
               have c19b0 : ((bt a0 x3_2) == 61) = true:=beq_iff_eq.mpr c19
               have c19b1 : ((bt a0 x3_2) != 61) = false:=bne_eq_false_iff_eq.mpr c19
               clear c19
               have H':=aMk H
               clear H
               have p10 : 0 ≤ (x3_2 : Int):=of_decide_eq_true (by first|(with_reducible assumption) | assumption)
               have q10 : x3_2 < (a0.size : Int):=of_decide_eq_true (by first|(with_reducible assumption) | assumption)
               have hx10:=bt_at a0 x3_2
               replace p10:=eq_true p10
               replace q10:=eq_true q10
               go_wp2_with (first|((with_reducible refine gate_callee (f:=54) rfl ?_);refine goesL_ (some 28) rfl rfl Tryd.func54 (by kernel_rfl) rfl #[.int .u8 (bt a0 x3_2)] rfl (by (try simp only [List.map_toArray,List.map_cons,List.map_nil]);first | done | rfl|(simp only [List.length_drop,List.length_take];rfl)) ?_;(with_reducible refine (spec_l00Letter.calls (bt a0 x3_2) false _ A11.out).mono ?_);rintro e w' ⟨rfl,⟨nd,rfl⟩⟩;refine ⟨_,rfl,?_⟩)|(go_at_call 55;(with_reducible refine (spec_l00Digit.calls (bt a0 x3_2) false _ A13.out).mono ?_);rintro e w' ⟨rfl,⟨nd,rfl⟩⟩))
               go_roundg k2
               case measure => have:=HJ1.out;have:=HK2.out;omega
               case rel => exact ⟨(wrap64 (x3_2 + 1)),(by first | rfl|(simp;done)|(simp [*];done)|(simp [ne_nil_b];done)|(simp [ne_nil_b, *];done)),H',⟨by have:=HJ1.out;have:=HK2.out;omega⟩,by repeat (first|exact Drawn0.refl _|apply Drawn0.step)⟩
              ·rw [if_neg c19] at H
               have c19b0 : ((bt a0 x3_2) == 61) = false:=beq_eq_false_iff_ne.mpr c19
               have c19b1 : ((bt a0 x3_2) != 61) = true:=bne_iff_ne.mpr c19
               by_cases c20 : (bt a0 x3_2) = 95
               ·rw [if_pos c20] at H
                have c20b0 : ((bt a0 x3_2) == 95) = true:=beq_iff_eq.mpr c20
                have c20b1 : ((bt a0 x3_2) != 95) = false:=bne_eq_false_iff_eq.mpr c20
                clear c20
                have H':=aMk H
                clear H
                have p10 : 0 ≤ (x3_2 : Int):=of_decide_eq_true (by first|(with_reducible assumption) | assumption)
                have q10 : x3_2 < (a0.size : Int):=of_decide_eq_true (by first|(with_reducible assumption) | assumption)
                have hx10:=bt_at a0 x3_2
                replace p10:=eq_true p10
                replace q10:=eq_true q10
                go_wp2_with (first|((with_reducible refine gate_callee (f:=54) rfl ?_);refine goesL_ (some 28) rfl rfl Tryd.func54 (by kernel_rfl) rfl #[.int .u8 (bt a0 x3_2)] rfl (by (try simp only [List.map_toArray,List.map_cons,List.map_nil]);first | done | rfl|(simp only [List.length_drop,List.length_take];rfl)) ?_;(with_reducible refine (spec_l00Letter.calls (bt a0 x3_2) false _ A11.out).mono ?_);rintro e w' ⟨rfl,⟨nd,rfl⟩⟩;refine ⟨_,rfl,?_⟩)|(go_at_call 55;(with_reducible refine (spec_l00Digit.calls (bt a0 x3_2) false _ A13.out).mono ?_);rintro e w' ⟨rfl,⟨nd,rfl⟩⟩))
                go_roundg k2
                case measure => have:=HJ1.out;have:=HK2.out;omega
                case rel => exact ⟨(wrap64 (x3_2 + 1)),(by first | rfl|(simp;done)|(simp [*];done)|(simp [ne_nil_b];done)|(simp [ne_nil_b, *];done)),H',⟨by have:=HJ1.out;have:=HK2.out;omega⟩,by repeat (first|exact Drawn0.refl _|apply Drawn0.step)⟩
               ·rw [if_neg c20] at H
                have c20b0 : ((bt a0 x3_2) == 95) = false:=beq_eq_false_iff_ne.mpr c20
                have c20b1 : ((bt a0 x3_2) != 95) = true:=bne_iff_ne.mpr c20
                obtain rfl:=Option.some.inj H
                have p10 : 0 ≤ (x3_2 : Int):=of_decide_eq_true (by first|(with_reducible assumption) | assumption)
                have q10 : x3_2 < (a0.size : Int):=of_decide_eq_true (by first|(with_reducible assumption) | assumption)
                have hx10:=bt_at a0 x3_2
                replace p10:=eq_true p10
                replace q10:=eq_true q10
                go_wp2_with (first|((with_reducible refine gate_callee (f:=54) rfl ?_);refine goesL_ (some 28) rfl rfl Tryd.func54 (by kernel_rfl) rfl #[.int .u8 (bt a0 x3_2)] rfl (by (try simp only [List.map_toArray,List.map_cons,List.map_nil]);first | done | rfl|(simp only [List.length_drop,List.length_take];rfl)) ?_;(with_reducible refine (spec_l00Letter.calls (bt a0 x3_2) false _ A11.out).mono ?_);rintro e w' ⟨rfl,⟨nd,rfl⟩⟩;refine ⟨_,rfl,?_⟩)|(go_at_call 55;(with_reducible refine (spec_l00Digit.calls (bt a0 x3_2) false _ A13.out).mono ?_);rintro e w' ⟨rfl,⟨nd,rfl⟩⟩))
                go_ret
                exact ⟨by first | rfl|(simp;done)|(simp [*];done)|(simp [ne_nil_b];done)|(simp [ne_nil_b, *];done),by repeat (first|exact Drawn0.refl _|apply Drawn0.step)⟩
       ·rw [if_neg c9] at H
        exact absurd H (by simp)
      ·rw [if_neg c8] at H
       have c8b0 : decide (x3_2 < (a0.size : Int)) = false:=decide_eq_false c8
       clear c8
       obtain rfl:=Option.some.inj H
       go_wp2
       go_ret
       exact ⟨by first | rfl|(simp;done)|(simp [*];done)|(simp [ne_nil_b];done)|(simp [ne_nil_b, *];done),by repeat (first|exact Drawn0.refl _|apply Drawn0.step)⟩
end
section
/-! ### spec_l00Digits: function 56 -/
def spec_l00Digits.f : Nat → Int → Option (ByteArray)
 | 0,_ => none
 | k + 1,a0 => if a0 = (-9223372036854775808) then (some (⟨#[45,57,50,50,51,51,55,50,48,51,54,56,53,52,55,55,53,56,48,56]⟩ : ByteArray)) else (if a0 < 0 then ((spec_l00Digits.f k (wrap64 (-a0))).bind fun t104 => (if 1 + t104.size ≤ 9223372036854775807 then (some ((⟨#[45]⟩ : ByteArray) ++ t104)) else (none))) else (if a0 < 10 then (some (strOfNums (([(wrap64 (48 + a0)) % 256] : List Int)))) else ((spec_l00Digits.f k (wrap64 (Int.tdiv a0 10))).bind fun t108 => ((some (([(wrap64 (48 + (Int.tmod a0 10))) % 256] : List Int) : List Int)).bind fun y109 => (if t108.size + (strOfNums y109).size ≤ 9223372036854775807 then (some (t108 ++ (strOfNums y109))) else (none))))))
theorem spec_l00Digits.mono_l : ∀ k,(∀ y0,LeO (spec_l00Digits.f k y0) (spec_l00Digits.f (k + 1) y0))
 | 0 => fun _ r h => by simp [spec_l00Digits.f] at h
 | k + 1 => by
  have ih0:=spec_l00Digits.mono_l k
  ·intro y0
   unfold spec_l00Digits.f
   repeat' first
   | (with_reducible exact ih0 _)
   | (with_reducible exact LeO.refl _)
   | (with_reducible exact LeO.none _)
   | (with_reducible refine LeO.ite ?_ ?_)
   | (with_reducible refine LeO.bind ?_ (fun _ => ?_))
   | exact ih0 _
   | exact LeO.none _
   | refine LeO.ite ?_ ?_
   | refine LeO.bind ?_ (fun _ => ?_)
theorem spec_l00Digits.mono : ∀ a0 k,LeO (spec_l00Digits.f k a0) (spec_l00Digits.f (k + 1) a0):=by
 intro a0 k
 have ih0:=spec_l00Digits.mono_l k
 exact ih0 a0
def spec_l00Digits.T7 : Bool × List (List Nat × List Nat):=(true,[([],[]),([0],[0]),([1],[1]),([],[]),([3],[3]),([4],[4]),([5],[5]),([6],[6]),([7],[7]),([2,8],[2,8]),([9,2,0,1,2,3,4,5,6,7,8,9],[9])])
def spec_l00Digits.B7 : List Nat:=[0,1,3,0,8,24,56,120,248,511,1023]
theorem spec_l00Digits.tab7 : rtab .any (opsOf Tryd.f56 7) = spec_l00Digits.T7:=by kernel_rfl
theorem spec_l00Digits.bits7 : waitsOk spec_l00Digits.T7.2 spec_l00Digits.B7 = true:=by kernel_rfl
set_option maxHeartbeats 8000000 in
set_option maxRecDepth 100000 in
theorem spec_l00Digits.calls (k : Nat) : ∀ (a0 : Int) (r : ByteArray) (w : World) (h : spec_l00Digits.f k a0 = some r),
  Calls Tryd.prog 56 #[.int .i64 a0] w fun e w' => e = .returned (.string r) ∧ Below w.heap.size w w':=by
 induction k using Nat.strongRecOn with
 | _ k ih =>
 intro a0 r w h
 cases k with
 | zero => exact absurd h (by simp [spec_l00Digits.f])
 | succ k =>
 simp only [spec_l00Digits.f] at h
 have HB:=aMk (Below.refl w.heap.size w)
 have H : (if a0 = (-9223372036854775808) then (some (⟨#[45,57,50,50,51,51,55,50,48,51,54,56,53,52,55,55,53,56,48,56]⟩ : ByteArray)) else (if a0 < 0 then ((spec_l00Digits.f k (wrap64 (-a0))).bind fun t104 => (if 1 + t104.size ≤ 9223372036854775807 then (some ((⟨#[45]⟩ : ByteArray) ++ t104)) else (none))) else (if a0 < 10 then (some (strOfNums (([(wrap64 (48 + a0)) % 256] : List Int)))) else ((spec_l00Digits.f k (wrap64 (Int.tdiv a0 10))).bind fun t108 => ((some (([(wrap64 (48 + (Int.tmod a0 10))) % 256] : List Int) : List Int)).bind fun y109 => (if t108.size + (strOfNums y109).size ≤ 9223372036854775807 then (some (t108 ++ (strOfNums y109))) else (none))))))) = some r:=h
 clear h
 by_cases c2 : a0 = (-9223372036854775808)
 ·rw [if_pos c2] at H
  have c2b0 : (a0 == (-9223372036854775808)) = true:=beq_iff_eq.mpr c2
  have c2b1 : (a0 != (-9223372036854775808)) = false:=bne_eq_false_iff_eq.mpr c2
  clear c2
  obtain rfl:=Option.some.inj H
  go_enter Tryd.func56,Tryd.ntmps56
  go_wp2
  go_ret
  exact ⟨by first | rfl|(simp [errW_none,errW_some] <;> rfl)|(simp [*,errW_none,errW_some] <;> rfl),by repeat (first|(with_reducible first|exact HB.out|apply bwA|apply bwN|apply bw1)|exact HB.out)⟩
 ·rw [if_neg c2] at H
  have c2b0 : (a0 == (-9223372036854775808)) = false:=beq_eq_false_iff_ne.mpr c2
  have c2b1 : (a0 != (-9223372036854775808)) = true:=bne_iff_ne.mpr c2
  by_cases c3 : a0 < 0
  ·rw [if_pos c3] at H
   have c3b0 : decide (a0 < 0) = true:=decide_eq_true c3
   clear c3
   replace H:=Option.bind_eq_some_iff.mp H
   obtain ⟨t104,A40,H⟩:=H
   replace H : (if 1 + t104.size ≤ 9223372036854775807 then (some ((⟨#[45]⟩ : ByteArray) ++ t104)) else (none)) = some r:=H
   have A4:=aMk A40
   clear A40
   by_cases c5 : 1 + t104.size ≤ 9223372036854775807
   ·rw [if_pos c5] at H
    have c5b0:=eq_true c5
    have c5b1 : decide (1 + t104.size ≤ 9223372036854775807) = true:=decide_eq_true c5
    try have c5b2 : (9223372036854775807 < 1 + t104.size) = False:=eq_false (Nat.not_lt.2 c5)
    obtain rfl:=Option.some.inj H
    go_enter Tryd.func56,Tryd.ntmps56
    go_wp2_with (first|((with_reducible refine gate_callee (f:=56) rfl ?_);refine goesL_ (some 9) rfl rfl Tryd.func56 (by kernel_rfl) rfl #[.int .i64 (wrap64 (-a0))] rfl (by (try simp only [List.map_toArray,List.map_cons,List.map_nil]);first | done | rfl|(simp only [List.length_drop,List.length_take];rfl)) ?_;(with_reducible refine (ih k (by omega) (wrap64 (-a0)) t104 _ A4.out).mono ?_);rintro e w6 ⟨rfl,hb⟩;refine ⟨_,rfl,?_⟩;have n0_:=aMk (below_step (by repeat first|exact HB.out|apply bwA|apply bwN|apply bw1) hb);clear HB;have HB:=n0_;clear n0_;(try clear hb);(try clear hb2);(try clear hk);(try clear hi)))
    go_ret
    exact ⟨by first | rfl|(simp [errW_none,errW_some] <;> rfl)|(simp [*,errW_none,errW_some] <;> rfl),by repeat (first|(with_reducible first|exact HB.out|apply bwA|apply bwN|apply bw1)|exact HB.out)⟩
   ·rw [if_neg c5] at H
    exact absurd H (by simp)
  ·rw [if_neg c3] at H
   have c3b0 : decide (a0 < 0) = false:=decide_eq_false c3
   clear c3
   by_cases c7 : a0 < 10
   ·rw [if_pos c7] at H
    have c7b0 : decide (a0 < 10) = true:=decide_eq_true c7
    clear c7
    obtain ⟨y105,hy105⟩ : ∃ y_ : List Int,y_ = (([(wrap64 (48 + a0)) % 256] : List Int)):=⟨_,rfl⟩
    replace H : (some (strOfNums y105)) = some r:=by first|(rw [hy105];with_reducible exact H)|(have H2_:=(Option.bind_some _ _).symm.trans H;rw [hy105];with_reducible exact H2_)|(have H2_:=(Option.bind_some _ _).symm.trans H;with_reducible exact H2_) | with_reducible exact H|(rw [hy105];exact H)|exact H
    have Ny105:=aMk hy105
    clear hy105
    obtain rfl:=Option.some.inj H
    go_enter Tryd.func56,Tryd.ntmps56
    go_wp2_with (first|((with_reducible refine gate_dst (N:=16) rfl ?_);refine Kd.R_lit (Kd.int .u8) _ 5 ?hg (N:=16) ?hd (xs:=([(wrap64 (48 + a0)) % 256] : List Int)) (inner:=[.int .u8 ((wrap64 (48 + a0)) % 256)]) (ok:=fun _ => True) (okp:=fun _ => True) ?hr ?hp (fun _ hk => hk) trivial (Below.refl _ _) (Nat.le_refl _) (by simp) ?_;(case hd => rfl);(case hg => rfl);(case hr => first|(go_simp;done)|(go_simp;rfl));(case hp => exact (Reps.one (show Kd.M (Kd.int .u8) _ _ _ ((wrap64 (48 + a0)) % 256) [.int .u8 ((wrap64 (48 + a0)) % 256)] from rfl) (Reps.none _ _)));intro v106 w8 ho9 hb hg_ hnew_;clear hg_ hnew_;(first|rw [← Ny105.out] at ho9|(simp only [Int.reduceToNat] at ho9;rw [← Ny105.out] at ho9));have n0_:=aMk (Kd.R_lower ho9 (below_size (by repeat first|exact HB.out|apply bwA|apply bwN|apply bw1)));have n1_:=aMk (below_step (by repeat first|exact HB.out|apply bwA|apply bwN|apply bw1) hb);clear HB;have HO107:=n0_;have HB:=n1_;clear n0_ n1_;clear hb ho9;have hcv10:=own_string (P:=Tryd.prog) Tryd.underlying38 Tryd.underlying5 Tryd.underlying9 (Kd.own_of_R HO107.out)))
    go_ret
    exact ⟨by first | rfl|(simp [errW_none,errW_some] <;> rfl)|(simp [*,errW_none,errW_some] <;> rfl),by repeat (first|(with_reducible first|exact HB.out|apply bwA|apply bwN|apply bw1)|exact HB.out)⟩
   ·rw [if_neg c7] at H
    have c7b0 : decide (a0 < 10) = false:=decide_eq_false c7
    clear c7
    replace H:=Option.bind_eq_some_iff.mp H
    obtain ⟨t108,A110,H⟩:=H
    replace H : ((some (([(wrap64 (48 + (Int.tmod a0 10))) % 256] : List Int) : List Int)).bind fun y109 => (if t108.size + (strOfNums y109).size ≤ 9223372036854775807 then (some (t108 ++ (strOfNums y109))) else (none))) = some r:=H
    have A11:=aMk A110
    clear A110
    obtain ⟨y109,hy109⟩ : ∃ y_ : List Int,y_ = (([(wrap64 (48 + (Int.tmod a0 10))) % 256] : List Int)):=⟨_,rfl⟩
    replace H : (if t108.size + (strOfNums y109).size ≤ 9223372036854775807 then (some (t108 ++ (strOfNums y109))) else (none)) = some r:=by first|(rw [hy109];with_reducible exact H)|(have H2_:=(Option.bind_some _ _).symm.trans H;rw [hy109];with_reducible exact H2_)|(have H2_:=(Option.bind_some _ _).symm.trans H;with_reducible exact H2_) | with_reducible exact H|(rw [hy109];exact H)|exact H
    have Ny109:=aMk hy109
    clear hy109
    by_cases c12 : t108.size + (strOfNums y109).size ≤ 9223372036854775807
    ·rw [if_pos c12] at H
     have c12b0:=eq_true c12
     have c12b1 : decide (t108.size + (strOfNums y109).size ≤ 9223372036854775807) = true:=decide_eq_true c12
     try have c12b2 : (9223372036854775807 < t108.size + (strOfNums y109).size) = False:=eq_false (Nat.not_lt.2 c12)
     obtain rfl:=Option.some.inj H
     go_enter Tryd.func56,Tryd.ntmps56
     try go_wp2
     have n0_:=aMk (bw1 HB.out)
     clear HB
     have HB:=n0_
     clear n0_
     refine start_ (n:=11) (S:=fun w' => True) (ds:=[]) #[false,false,false,false,false,false,false,false,false,false,false] (by kernel_rfl) rfl rfl trivial (fun hHeld => ?_);refine with_tabW spec_l00Digits.tab7 spec_l00Digits.bits7 (fun HT_ HW_ => ?_)
     generalize w.drew = w13 at HB hHeld ⊢
     refine pure_ (i:=0) (N:=some 18) (v:=?_) (a':=?_) #[true,false,false,false,false,false,false,false,false,false,false] rfl rfl (any_of HT_.out (by kernel_rfl)) (fun _ _ _ h => h) (Or.inl ⟨by rfl,?_⟩) ?_ ?_
     rotate_left
     ·intro w'
      go_simp
      with_reducible rfl
     rotate_left
     ·simp only [Act.put,List.setIfInBounds_toArray,List.set_cons_zero,List.set_cons_succ,i64_w,i32_w]
      rfl
     refine pure_ (i:=1) (N:=some 19) (v:=?_) (a':=?_) #[true,true,false,false,false,false,false,false,false,false,false] rfl rfl (any_of HT_.out (by kernel_rfl)) (fun _ _ _ h => h) (Or.inl ⟨by rfl,?_⟩) ?_ ?_
     rotate_left
     ·intro w'
      go_simp
      with_reducible rfl
     rotate_left
     ·simp only [Act.put,List.setIfInBounds_toArray,List.set_cons_zero,List.set_cons_succ,i64_w,i32_w]
      rfl
     refine pure_ (i:=3) (N:=some 21) (v:=?_) (a':=?_) #[true,true,false,true,false,false,false,false,false,false,false] rfl rfl (any_of HT_.out (by kernel_rfl)) (fun _ _ _ h => h) (Or.inl ⟨by rfl,?_⟩) ?_ ?_
     rotate_left
     ·intro w'
      go_simp
      with_reducible rfl
     rotate_left
     ·simp only [Act.put,List.setIfInBounds_toArray,List.set_cons_zero,List.set_cons_succ,i64_w,i32_w]
      rfl
     refine pure_ (i:=4) (N:=some 22) (v:=?_) (a':=?_) #[true,true,false,true,true,false,false,false,false,false,false] rfl rfl (any_of HT_.out (by kernel_rfl)) (fun _ _ _ h => h) (Or.inl ⟨by rfl,?_⟩) ?_ ?_
     rotate_left
     ·intro w'
      go_simp
      with_reducible rfl
     rotate_left
     ·simp only [Act.put,List.setIfInBounds_toArray,List.set_cons_zero,List.set_cons_succ,i64_w,i32_w]
      rfl
     refine pure_ (i:=5) (N:=some 23) (v:=?_) (a':=?_) #[true,true,false,true,true,true,false,false,false,false,false] rfl rfl (any_of HT_.out (by kernel_rfl)) (fun _ _ _ h => h) (Or.inl ⟨by rfl,?_⟩) ?_ ?_
     rotate_left
     ·intro w'
      go_simp
      with_reducible rfl
     rotate_left
     ·simp only [Act.put,List.setIfInBounds_toArray,List.set_cons_zero,List.set_cons_succ,i64_w,i32_w]
      rfl
     refine pure_ (i:=6) (N:=some 24) (v:=?_) (a':=?_) #[true,true,false,true,true,true,true,false,false,false,false] rfl rfl (any_of HT_.out (by kernel_rfl)) (fun _ _ _ h => h) (Or.inl ⟨by rfl,?_⟩) ?_ ?_
     rotate_left
     ·intro w'
      go_simp
      with_reducible rfl
     rotate_left
     ·simp only [Act.put,List.setIfInBounds_toArray,List.set_cons_zero,List.set_cons_succ,i64_w,i32_w]
      rfl
     refine join_ (σ:=Value) 2 #[true,true,true,true,true,true,true,true,true,false,false] (fun s_ => [(20,.string t108),(25,s_),(26,.string (strOfNums y109))]) (fun s_ w' => (Kd.R (Kd.int .u8) 5 w' w.heap.size (fun _ => True) s_ y109) ∧ (Below w.heap.size w w')) ?_ ?_
     rotate_left
     ·intro hCont
      refine two_ (i:=2) (j:=7) (Ni:=some 20) (Nj:=some 25) #[true,true,true,true,true,true,true,false,false,false,false] #[true,true,false,true,true,true,true,true,false,false,false] rfl rfl rfl rfl (two_of HT_.out (by kernel_rfl)) (by decide) (by decide) (fun K hK => ?_) (fun K hK => ?_)
      ·skip
       refine goes_ Tryd.func56 (by kernel_rfl) rfl #[.int .i64 (wrap64 (Int.tdiv a0 10))] (by rfl) rfl rfl (by (try simp only [List.map_toArray,List.map_cons,List.map_nil]);first | done | rfl|(simp only [List.length_drop,List.length_take];rfl)) ?_
       with_reducible refine (ih k (by omega) (wrap64 (Int.tdiv a0 10)) t108 _ A11.out).mono ?_
       rintro e w14 ⟨rfl,hb⟩
       refine ⟨_,rfl,?_⟩
       have n0_:=aMk (below_step (by repeat first|exact HB.out|apply bwA|apply bwN|apply bw1) hb)
       clear HB
       have HB:=n0_
       clear n0_
       (try clear hb)
       (try clear hb2)
       (try clear hk)
       (try clear hi)
       refine hK.out _ _ trivial (fun hHeld => ?_)
       clear hK K
       refine norm_ (a':=?_) ?_ ?_
       rotate_left
       ·show Act.put _ (some 20) _ = _
        simp only [Act.put,List.setIfInBounds_toArray,List.set_cons_zero,List.set_cons_succ,i64_w,i32_w]
        rfl
       refine one_ (i:=7) (N:=some 25) #[true,true,true,true,true,true,true,true,false,false,false] rfl rfl (one_of HT_.out (by kernel_rfl)) (by decide) (fun K hK => ?_)
       refine Kd.R_lit_step (Kd.int .u8) _ 5 ?hg (N:=25) ?hd (xs:=([(wrap64 (48 + (Int.tmod a0 10))) % 256] : List Int)) (inner:=[.int .u8 ((wrap64 (48 + (Int.tmod a0 10))) % 256)]) (ok:=fun _ => True) (okp:=fun _ => True) ?hr ?hp (fun _ hk => hk) trivial (Below.refl _ _) (Nat.le_refl _) (by simp) ?_;(case hd => rfl);(case hg => rfl);(case hr => first|(go_simp;done)|(go_simp;rfl));(case hp => exact (Reps.one (show Kd.M (Kd.int .u8) _ _ _ ((wrap64 (48 + (Int.tmod a0 10))) % 256) [.int .u8 ((wrap64 (48 + (Int.tmod a0 10))) % 256)] from rfl) (Reps.none _ _)))
       intro v110 w15 ho16 hb hg_ hnew_
       clear hg_ hnew_
       (first|rw [← Ny109.out] at ho16|(simp only [Int.reduceToNat] at ho16;rw [← Ny109.out] at ho16))
       have n0_:=aMk (Kd.R_lower ho16 (below_size (by repeat first|exact HB.out|apply bwA|apply bwN|apply bw1)))
       have n1_:=aMk (below_step (by repeat first|exact HB.out|apply bwA|apply bwN|apply bw1) hb)
       clear HB
       have HO111:=n0_
       have HB:=n1_
       clear n0_ n1_
       clear hb ho16
       refine hK.out _ _ trivial (fun hHeld => ?_)
       clear hK K
       refine norm_ (a':=?_) ?_ ?_
       rotate_left
       ·show Act.put _ (some 25) _ = _
        simp only [Act.put,List.setIfInBounds_toArray,List.set_cons_zero,List.set_cons_succ,i64_w,i32_w]
        rfl
       refine one_ (i:=8) (N:=some 26) #[true,true,true,true,true,true,true,true,true,false,false] rfl rfl (one_of HT_.out (by kernel_rfl)) (by decide) (fun K hK => ?_)
       have hcv17:=own_string (P:=Tryd.prog) Tryd.underlying38 Tryd.underlying5 Tryd.underlying9 (Kd.own_of_R HO111.out)
       refine value_ (w1:=?_) (v:=?_) (by rfl) rfl ?_ ?_
       rotate_left 2
       ·go_simp
        constructor
        ·rfl
        ·rfl
       clear hcv17
       refine hK.out _ _ trivial (fun hHeld => ?_)
       clear hK K
       refine norm_ (a':=?_) ?_ ?_
       rotate_left
       ·show Act.put _ (some 26) _ = _
        simp only [Act.put,List.setIfInBounds_toArray,List.set_cons_zero,List.set_cons_succ,i64_w,i32_w]
        rfl
       exact norm_ (by simp only [putAll,Act.put,List.setIfInBounds_toArray,List.set_cons_zero,List.set_cons_succ]) (hCont (v110) _ ⟨(by (with_reducible repeat (first|apply Kd.R_alloc|apply Kd.R_drewN|apply Kd.R_drew));exact HO111.out),(by repeat first|exact HB.out|apply bwA|apply bwN|apply bw1)⟩)
      ·skip
       refine Kd.R_lit_step (Kd.int .u8) _ 5 ?hg (N:=25) ?hd (xs:=([(wrap64 (48 + (Int.tmod a0 10))) % 256] : List Int)) (inner:=[.int .u8 ((wrap64 (48 + (Int.tmod a0 10))) % 256)]) (ok:=fun _ => True) (okp:=fun _ => True) ?hr ?hp (fun _ hk => hk) trivial (Below.refl _ _) (Nat.le_refl _) (by simp) ?_;(case hd => rfl);(case hg => rfl);(case hr => first|(go_simp;done)|(go_simp;rfl));(case hp => exact (Reps.one (show Kd.M (Kd.int .u8) _ _ _ ((wrap64 (48 + (Int.tmod a0 10))) % 256) [.int .u8 ((wrap64 (48 + (Int.tmod a0 10))) % 256)] from rfl) (Reps.none _ _)))
       intro v110 w14 ho15 hb hg_ hnew_
       clear hg_ hnew_
       (first|rw [← Ny109.out] at ho15|(simp only [Int.reduceToNat] at ho15;rw [← Ny109.out] at ho15))
       have n0_:=aMk (Kd.R_lower ho15 (below_size (by repeat first|exact HB.out|apply bwA|apply bwN|apply bw1)))
       have n1_:=aMk (below_step (by repeat first|exact HB.out|apply bwA|apply bwN|apply bw1) hb)
       clear HB
       have HO111:=n0_
       have HB:=n1_
       clear n0_ n1_
       clear hb ho15
       refine hK.out _ _ trivial (fun hHeld => ?_)
       clear hK K
       refine norm_ (a':=?_) ?_ ?_
       rotate_left
       ·show Act.put _ (some 25) _ = _
        simp only [Act.put,List.setIfInBounds_toArray,List.set_cons_zero,List.set_cons_succ,i64_w,i32_w]
        rfl
       refine two_ (i:=2) (j:=8) (Ni:=some 20) (Nj:=some 26) #[true,true,true,true,true,true,true,true,false,false,false] #[true,true,false,true,true,true,true,true,true,false,false] rfl rfl rfl rfl (two_of HT_.out (by kernel_rfl)) (by decide) (by decide) (fun K hK => ?_) (fun K hK => ?_)
       ·skip
        refine goes_ Tryd.func56 (by kernel_rfl) rfl #[.int .i64 (wrap64 (Int.tdiv a0 10))] (by rfl) rfl rfl (by (try simp only [List.map_toArray,List.map_cons,List.map_nil]);first | done | rfl|(simp only [List.length_drop,List.length_take];rfl)) ?_
        with_reducible refine (ih k (by omega) (wrap64 (Int.tdiv a0 10)) t108 _ A11.out).mono ?_
        rintro e w16 ⟨rfl,hb⟩
        refine ⟨_,rfl,?_⟩
        have n0_:=aMk (Kd.R_below (by (with_reducible repeat (first|apply Kd.R_alloc|apply Kd.R_drewN|apply Kd.R_drew));exact HO111.out) hb)
        have n1_:=aMk (below_step (by repeat first|exact HB.out|apply bwA|apply bwN|apply bw1) hb)
        clear HO111
        clear HB
        have HO111:=n0_
        have HB:=n1_
        clear n0_ n1_
        (try clear hb)
        (try clear hb2)
        (try clear hk)
        (try clear hi)
        refine hK.out _ _ trivial (fun hHeld => ?_)
        clear hK K
        refine norm_ (a':=?_) ?_ ?_
        rotate_left
        ·show Act.put _ (some 20) _ = _
         simp only [Act.put,List.setIfInBounds_toArray,List.set_cons_zero,List.set_cons_succ,i64_w,i32_w]
         rfl
        refine one_ (i:=8) (N:=some 26) #[true,true,true,true,true,true,true,true,true,false,false] rfl rfl (one_of HT_.out (by kernel_rfl)) (by decide) (fun K hK => ?_)
        have hcv17:=own_string (P:=Tryd.prog) Tryd.underlying38 Tryd.underlying5 Tryd.underlying9 (Kd.own_of_R HO111.out)
        refine value_ (w1:=?_) (v:=?_) (by rfl) rfl ?_ ?_
        rotate_left 2
        ·go_simp
         constructor
         ·rfl
         ·rfl
        clear hcv17
        refine hK.out _ _ trivial (fun hHeld => ?_)
        clear hK K
        refine norm_ (a':=?_) ?_ ?_
        rotate_left
        ·show Act.put _ (some 26) _ = _
         simp only [Act.put,List.setIfInBounds_toArray,List.set_cons_zero,List.set_cons_succ,i64_w,i32_w]
         rfl
        exact norm_ (by simp only [putAll,Act.put,List.setIfInBounds_toArray,List.set_cons_zero,List.set_cons_succ]) (hCont (v110) _ ⟨(by (with_reducible repeat (first|apply Kd.R_alloc|apply Kd.R_drewN|apply Kd.R_drew));exact HO111.out),(by repeat first|exact HB.out|apply bwA|apply bwN|apply bw1)⟩)
       ·skip
        have hcv16:=own_string (P:=Tryd.prog) Tryd.underlying38 Tryd.underlying5 Tryd.underlying9 (Kd.own_of_R HO111.out)
        refine value_ (w1:=?_) (v:=?_) (by rfl) rfl ?_ ?_
        rotate_left 2
        ·go_simp
         constructor
         ·rfl
         ·rfl
        clear hcv16
        refine hK.out _ _ trivial (fun hHeld => ?_)
        clear hK K
        refine norm_ (a':=?_) ?_ ?_
        rotate_left
        ·show Act.put _ (some 26) _ = _
         simp only [Act.put,List.setIfInBounds_toArray,List.set_cons_zero,List.set_cons_succ,i64_w,i32_w]
         rfl
        refine one_ (i:=2) (N:=some 20) #[true,true,true,true,true,true,true,true,true,false,false] rfl rfl (one_of HT_.out (by kernel_rfl)) (by decide) (fun K hK => ?_)
        refine goes_ Tryd.func56 (by kernel_rfl) rfl #[.int .i64 (wrap64 (Int.tdiv a0 10))] (by rfl) rfl rfl (by (try simp only [List.map_toArray,List.map_cons,List.map_nil]);first | done | rfl|(simp only [List.length_drop,List.length_take];rfl)) ?_
        with_reducible refine (ih k (by omega) (wrap64 (Int.tdiv a0 10)) t108 _ A11.out).mono ?_
        rintro e w17 ⟨rfl,hb⟩
        refine ⟨_,rfl,?_⟩
        have n0_:=aMk (Kd.R_below (by (with_reducible repeat (first|apply Kd.R_alloc|apply Kd.R_drewN|apply Kd.R_drew));exact HO111.out) hb)
        have n1_:=aMk (below_step (by repeat first|exact HB.out|apply bwA|apply bwN|apply bw1) hb)
        clear HO111
        clear HB
        have HO111:=n0_
        have HB:=n1_
        clear n0_ n1_
        (try clear hb)
        (try clear hb2)
        (try clear hk)
        (try clear hi)
        refine hK.out _ _ trivial (fun hHeld => ?_)
        clear hK K
        refine norm_ (a':=?_) ?_ ?_
        rotate_left
        ·show Act.put _ (some 20) _ = _
         simp only [Act.put,List.setIfInBounds_toArray,List.set_cons_zero,List.set_cons_succ,i64_w,i32_w]
         rfl
        exact norm_ (by simp only [putAll,Act.put,List.setIfInBounds_toArray,List.set_cons_zero,List.set_cons_succ]) (hCont (v110) _ ⟨(by (with_reducible repeat (first|apply Kd.R_alloc|apply Kd.R_drewN|apply Kd.R_drew));exact HO111.out),(by repeat first|exact HB.out|apply bwA|apply bwN|apply bw1)⟩)
     rintro v110 w18 ⟨h0_,h1_⟩
     have n0_ : Aside0 (Kd.R (Kd.int .u8) 5 w18 w.heap.size (fun _ => True) v110 y109):=⟨h0_⟩
     have n1_ : Aside0 (Below w.heap.size w w18):=⟨h1_⟩
     clear HB
     clear h0_ h1_
     have HO111:=n0_
     have HB:=n1_
     clear n0_ n1_
     have hHeld:=trivial
     refine norm_ (a':=?_) ?_ ?_
     rotate_left
     ·simp only [putAll,Act.put,List.setIfInBounds_toArray,List.set_cons_zero,List.set_cons_succ]
      rfl
     refine pure_ (i:=9) (N:=some 27) (v:=?_) (a':=?_) #[true,true,true,true,true,true,true,true,true,true,false] rfl rfl (any_of HT_.out (by kernel_rfl)) (fun _ _ _ h => h) (Or.inl ⟨by rfl,?_⟩) ?_ ?_
     rotate_left
     ·intro w'
      go_simp
      with_reducible rfl
     rotate_left
     ·simp only [Act.put,List.setIfInBounds_toArray,List.set_cons_zero,List.set_cons_succ,i64_w,i32_w]
      rfl
     refine pure_ (i:=10) (N:=some 2) (v:=?_) (a':=?_) #[true,true,true,true,true,true,true,true,true,true,true] rfl rfl (any_of HT_.out (by kernel_rfl)) (fun _ _ _ h => h) (Or.inl ⟨by rfl,?_⟩) ?_ ?_
     rotate_left
     ·intro w'
      go_simp
      with_reducible rfl
     rotate_left
     ·simp only [Act.put,List.setIfInBounds_toArray,List.set_cons_zero,List.set_cons_succ,i64_w,i32_w]
      rfl
     refine done_ (done_of HT_.out (by kernel_rfl)) ?_
     try go_wp2
     go_ret
     exact ⟨by first | rfl|(simp [errW_none,errW_some] <;> rfl)|(simp [*,errW_none,errW_some] <;> rfl),by repeat (first|(with_reducible first|exact HB.out|apply bwA|apply bwN|apply bw1)|exact HB.out)⟩
    ·rw [if_neg c12] at H
     exact absurd H (by simp)
end
section
/-! ### spec_l11Page: function 37 -/
def spec_l11Page.f (k : Nat) (a0 : Int) (a1 : ByteArray) (a2 : ByteArray) : Option (ByteArray):=(spec_l00Digits.f k a0).bind fun t164 => (if 9 + t164.size ≤ 9223372036854775807 then (if ((⟨#[72,84,84,80,47,49,46,49,32]⟩ : ByteArray) ++ t164).size + 1 ≤ 9223372036854775807 then ((spec_StatusWord.f a0).bind fun t165 => (if (((⟨#[72,84,84,80,47,49,46,49,32]⟩ : ByteArray) ++ t164) ++ (⟨#[32]⟩ : ByteArray)).size + t165.size ≤ 9223372036854775807 then (if ((((⟨#[72,84,84,80,47,49,46,49,32]⟩ : ByteArray) ++ t164) ++ (⟨#[32]⟩ : ByteArray)) ++ t165).size + 2 ≤ 9223372036854775807 then (if a1.toList = ([] : List UInt8) then (if (((((⟨#[72,84,84,80,47,49,46,49,32]⟩ : ByteArray) ++ t164) ++ (⟨#[32]⟩ : ByteArray)) ++ t165) ++ (⟨#[13,10]⟩ : ByteArray)).size + 16 ≤ 9223372036854775807 then ((spec_l00Digits.f k (a2.size : Int)).bind fun t166 => (if ((((((⟨#[72,84,84,80,47,49,46,49,32]⟩ : ByteArray) ++ t164) ++ (⟨#[32]⟩ : ByteArray)) ++ t165) ++ (⟨#[13,10]⟩ : ByteArray)) ++ (⟨#[67,111,110,116,101,110,116,45,76,101,110,103,116,104,58,32]⟩ : ByteArray)).size + t166.size ≤ 9223372036854775807 then (if (((((((⟨#[72,84,84,80,47,49,46,49,32]⟩ : ByteArray) ++ t164) ++ (⟨#[32]⟩ : ByteArray)) ++ t165) ++ (⟨#[13,10]⟩ : ByteArray)) ++ (⟨#[67,111,110,116,101,110,116,45,76,101,110,103,116,104,58,32]⟩ : ByteArray)) ++ t166).size + 23 ≤ 9223372036854775807 then (if ((((((((⟨#[72,84,84,80,47,49,46,49,32]⟩ : ByteArray) ++ t164) ++ (⟨#[32]⟩ : ByteArray)) ++ t165) ++ (⟨#[13,10]⟩ : ByteArray)) ++ (⟨#[67,111,110,116,101,110,116,45,76,101,110,103,116,104,58,32]⟩ : ByteArray)) ++ t166) ++ (⟨#[13,10,67,111,110,110,101,99,116,105,111,110,58,32,99,108,111,115,101,13,10,13,10]⟩ : ByteArray)).size + a2.size ≤ 9223372036854775807 then (some (((((((((⟨#[72,84,84,80,47,49,46,49,32]⟩ : ByteArray) ++ t164) ++ (⟨#[32]⟩ : ByteArray)) ++ t165) ++ (⟨#[13,10]⟩ : ByteArray)) ++ (⟨#[67,111,110,116,101,110,116,45,76,101,110,103,116,104,58,32]⟩ : ByteArray)) ++ t166) ++ (⟨#[13,10,67,111,110,110,101,99,116,105,111,110,58,32,99,108,111,115,101,13,10,13,10]⟩ : ByteArray)) ++ a2)) else (none)) else (none)) else (none))) else (none)) else (if 10 + a1.size ≤ 9223372036854775807 then (if ((⟨#[76,111,99,97,116,105,111,110,58,32]⟩ : ByteArray) ++ a1).size + 2 ≤ 9223372036854775807 then (if (((((⟨#[72,84,84,80,47,49,46,49,32]⟩ : ByteArray) ++ t164) ++ (⟨#[32]⟩ : ByteArray)) ++ t165) ++ (⟨#[13,10]⟩ : ByteArray)).size + (((⟨#[76,111,99,97,116,105,111,110,58,32]⟩ : ByteArray) ++ a1) ++ (⟨#[13,10]⟩ : ByteArray)).size ≤ 9223372036854775807 then (if ((((((⟨#[72,84,84,80,47,49,46,49,32]⟩ : ByteArray) ++ t164) ++ (⟨#[32]⟩ : ByteArray)) ++ t165) ++ (⟨#[13,10]⟩ : ByteArray)) ++ (((⟨#[76,111,99,97,116,105,111,110,58,32]⟩ : ByteArray) ++ a1) ++ (⟨#[13,10]⟩ : ByteArray))).size + 16 ≤ 9223372036854775807 then ((spec_l00Digits.f k (a2.size : Int)).bind fun t167 => (if (((((((⟨#[72,84,84,80,47,49,46,49,32]⟩ : ByteArray) ++ t164) ++ (⟨#[32]⟩ : ByteArray)) ++ t165) ++ (⟨#[13,10]⟩ : ByteArray)) ++ (((⟨#[76,111,99,97,116,105,111,110,58,32]⟩ : ByteArray) ++ a1) ++ (⟨#[13,10]⟩ : ByteArray))) ++ (⟨#[67,111,110,116,101,110,116,45,76,101,110,103,116,104,58,32]⟩ : ByteArray)).size + t167.size ≤ 9223372036854775807 then (if ((((((((⟨#[72,84,84,80,47,49,46,49,32]⟩ : ByteArray) ++ t164) ++ (⟨#[32]⟩ : ByteArray)) ++ t165) ++ (⟨#[13,10]⟩ : ByteArray)) ++ (((⟨#[76,111,99,97,116,105,111,110,58,32]⟩ : ByteArray) ++ a1) ++ (⟨#[13,10]⟩ : ByteArray))) ++ (⟨#[67,111,110,116,101,110,116,45,76,101,110,103,116,104,58,32]⟩ : ByteArray)) ++ t167).size + 23 ≤ 9223372036854775807 then (if (((((((((⟨#[72,84,84,80,47,49,46,49,32]⟩ : ByteArray) ++ t164) ++ (⟨#[32]⟩ : ByteArray)) ++ t165) ++ (⟨#[13,10]⟩ : ByteArray)) ++ (((⟨#[76,111,99,97,116,105,111,110,58,32]⟩ : ByteArray) ++ a1) ++ (⟨#[13,10]⟩ : ByteArray))) ++ (⟨#[67,111,110,116,101,110,116,45,76,101,110,103,116,104,58,32]⟩ : ByteArray)) ++ t167) ++ (⟨#[13,10,67,111,110,110,101,99,116,105,111,110,58,32,99,108,111,115,101,13,10,13,10]⟩ : ByteArray)).size + a2.size ≤ 9223372036854775807 then (some ((((((((((⟨#[72,84,84,80,47,49,46,49,32]⟩ : ByteArray) ++ t164) ++ (⟨#[32]⟩ : ByteArray)) ++ t165) ++ (⟨#[13,10]⟩ : ByteArray)) ++ (((⟨#[76,111,99,97,116,105,111,110,58,32]⟩ : ByteArray) ++ a1) ++ (⟨#[13,10]⟩ : ByteArray))) ++ (⟨#[67,111,110,116,101,110,116,45,76,101,110,103,116,104,58,32]⟩ : ByteArray)) ++ t167) ++ (⟨#[13,10,67,111,110,110,101,99,116,105,111,110,58,32,99,108,111,115,101,13,10,13,10]⟩ : ByteArray)) ++ a2)) else (none)) else (none)) else (none))) else (none)) else (none)) else (none)) else (none))) else (none)) else (none))) else (none)) else (none))
theorem spec_l11Page.mono : ∀ a0 a1 a2 k,LeO (spec_l11Page.f k a0 a1 a2) (spec_l11Page.f (k + 1) a0 a1 a2):=by
 intro a0 a1 a2 k
 unfold spec_l11Page.f
 repeat' first
   | (with_reducible exact spec_l00Digits.mono ..)
   | (with_reducible exact LeO.refl _)
   | (with_reducible exact LeO.none _)
   | (with_reducible refine LeO.ite ?_ ?_)
   | (with_reducible refine LeO.bind ?_ (fun _ => ?_))
   | exact spec_l00Digits.mono ..
   | exact LeO.none _
   | refine LeO.ite ?_ ?_
   | refine LeO.bind ?_ (fun _ => ?_)
set_option maxHeartbeats 8000000 in
set_option maxRecDepth 100000 in
theorem spec_l11Page.calls (k : Nat) (a0 : Int) (a1 : ByteArray) (a2 : ByteArray) (r : ByteArray) (w : World) (h : spec_l11Page.f k a0 a1 a2 = some r) :
  Calls Tryd.prog 37 #[.int .i64 a0,.string a1,.string a2] w fun e w' => e = .returned (.string r) ∧ Below w.heap.size w w':=by
 have HB:=aMk (Below.refl w.heap.size w)
 have H : ((spec_l00Digits.f k a0).bind fun t164 => (if 9 + t164.size ≤ 9223372036854775807 then (if ((⟨#[72,84,84,80,47,49,46,49,32]⟩ : ByteArray) ++ t164).size + 1 ≤ 9223372036854775807 then ((spec_StatusWord.f a0).bind fun t165 => (if (((⟨#[72,84,84,80,47,49,46,49,32]⟩ : ByteArray) ++ t164) ++ (⟨#[32]⟩ : ByteArray)).size + t165.size ≤ 9223372036854775807 then (if ((((⟨#[72,84,84,80,47,49,46,49,32]⟩ : ByteArray) ++ t164) ++ (⟨#[32]⟩ : ByteArray)) ++ t165).size + 2 ≤ 9223372036854775807 then (if a1.toList = ([] : List UInt8) then (if (((((⟨#[72,84,84,80,47,49,46,49,32]⟩ : ByteArray) ++ t164) ++ (⟨#[32]⟩ : ByteArray)) ++ t165) ++ (⟨#[13,10]⟩ : ByteArray)).size + 16 ≤ 9223372036854775807 then ((spec_l00Digits.f k (a2.size : Int)).bind fun t166 => (if ((((((⟨#[72,84,84,80,47,49,46,49,32]⟩ : ByteArray) ++ t164) ++ (⟨#[32]⟩ : ByteArray)) ++ t165) ++ (⟨#[13,10]⟩ : ByteArray)) ++ (⟨#[67,111,110,116,101,110,116,45,76,101,110,103,116,104,58,32]⟩ : ByteArray)).size + t166.size ≤ 9223372036854775807 then (if (((((((⟨#[72,84,84,80,47,49,46,49,32]⟩ : ByteArray) ++ t164) ++ (⟨#[32]⟩ : ByteArray)) ++ t165) ++ (⟨#[13,10]⟩ : ByteArray)) ++ (⟨#[67,111,110,116,101,110,116,45,76,101,110,103,116,104,58,32]⟩ : ByteArray)) ++ t166).size + 23 ≤ 9223372036854775807 then (if ((((((((⟨#[72,84,84,80,47,49,46,49,32]⟩ : ByteArray) ++ t164) ++ (⟨#[32]⟩ : ByteArray)) ++ t165) ++ (⟨#[13,10]⟩ : ByteArray)) ++ (⟨#[67,111,110,116,101,110,116,45,76,101,110,103,116,104,58,32]⟩ : ByteArray)) ++ t166) ++ (⟨#[13,10,67,111,110,110,101,99,116,105,111,110,58,32,99,108,111,115,101,13,10,13,10]⟩ : ByteArray)).size + a2.size ≤ 9223372036854775807 then (some (((((((((⟨#[72,84,84,80,47,49,46,49,32]⟩ : ByteArray) ++ t164) ++ (⟨#[32]⟩ : ByteArray)) ++ t165) ++ (⟨#[13,10]⟩ : ByteArray)) ++ (⟨#[67,111,110,116,101,110,116,45,76,101,110,103,116,104,58,32]⟩ : ByteArray)) ++ t166) ++ (⟨#[13,10,67,111,110,110,101,99,116,105,111,110,58,32,99,108,111,115,101,13,10,13,10]⟩ : ByteArray)) ++ a2)) else (none)) else (none)) else (none))) else (none)) else (if 10 + a1.size ≤ 9223372036854775807 then (if ((⟨#[76,111,99,97,116,105,111,110,58,32]⟩ : ByteArray) ++ a1).size + 2 ≤ 9223372036854775807 then (if (((((⟨#[72,84,84,80,47,49,46,49,32]⟩ : ByteArray) ++ t164) ++ (⟨#[32]⟩ : ByteArray)) ++ t165) ++ (⟨#[13,10]⟩ : ByteArray)).size + (((⟨#[76,111,99,97,116,105,111,110,58,32]⟩ : ByteArray) ++ a1) ++ (⟨#[13,10]⟩ : ByteArray)).size ≤ 9223372036854775807 then (if ((((((⟨#[72,84,84,80,47,49,46,49,32]⟩ : ByteArray) ++ t164) ++ (⟨#[32]⟩ : ByteArray)) ++ t165) ++ (⟨#[13,10]⟩ : ByteArray)) ++ (((⟨#[76,111,99,97,116,105,111,110,58,32]⟩ : ByteArray) ++ a1) ++ (⟨#[13,10]⟩ : ByteArray))).size + 16 ≤ 9223372036854775807 then ((spec_l00Digits.f k (a2.size : Int)).bind fun t167 => (if (((((((⟨#[72,84,84,80,47,49,46,49,32]⟩ : ByteArray) ++ t164) ++ (⟨#[32]⟩ : ByteArray)) ++ t165) ++ (⟨#[13,10]⟩ : ByteArray)) ++ (((⟨#[76,111,99,97,116,105,111,110,58,32]⟩ : ByteArray) ++ a1) ++ (⟨#[13,10]⟩ : ByteArray))) ++ (⟨#[67,111,110,116,101,110,116,45,76,101,110,103,116,104,58,32]⟩ : ByteArray)).size + t167.size ≤ 9223372036854775807 then (if ((((((((⟨#[72,84,84,80,47,49,46,49,32]⟩ : ByteArray) ++ t164) ++ (⟨#[32]⟩ : ByteArray)) ++ t165) ++ (⟨#[13,10]⟩ : ByteArray)) ++ (((⟨#[76,111,99,97,116,105,111,110,58,32]⟩ : ByteArray) ++ a1) ++ (⟨#[13,10]⟩ : ByteArray))) ++ (⟨#[67,111,110,116,101,110,116,45,76,101,110,103,116,104,58,32]⟩ : ByteArray)) ++ t167).size + 23 ≤ 9223372036854775807 then (if (((((((((⟨#[72,84,84,80,47,49,46,49,32]⟩ : ByteArray) ++ t164) ++ (⟨#[32]⟩ : ByteArray)) ++ t165) ++ (⟨#[13,10]⟩ : ByteArray)) ++ (((⟨#[76,111,99,97,116,105,111,110,58,32]⟩ : ByteArray) ++ a1) ++ (⟨#[13,10]⟩ : ByteArray))) ++ (⟨#[67,111,110,116,101,110,116,45,76,101,110,103,116,104,58,32]⟩ : ByteArray)) ++ t167) ++ (⟨#[13,10,67,111,110,110,101,99,116,105,111,110,58,32,99,108,111,115,101,13,10,13,10]⟩ : ByteArray)).size + a2.size ≤ 9223372036854775807 then (some ((((((((((⟨#[72,84,84,80,47,49,46,49,32]⟩ : ByteArray) ++ t164) ++ (⟨#[32]⟩ : ByteArray)) ++ t165) ++ (⟨#[13,10]⟩ : ByteArray)) ++ (((⟨#[76,111,99,97,116,105,111,110,58,32]⟩ : ByteArray) ++ a1) ++ (⟨#[13,10]⟩ : ByteArray))) ++ (⟨#[67,111,110,116,101,110,116,45,76,101,110,103,116,104,58,32]⟩ : ByteArray)) ++ t167) ++ (⟨#[13,10,67,111,110,110,101,99,116,105,111,110,58,32,99,108,111,115,101,13,10,13,10]⟩ : ByteArray)) ++ a2)) else (none)) else (none)) else (none))) else (none)) else (none)) else (none)) else (none))) else (none)) else (none))) else (none)) else (none))) = some r:=h
 clear h
 replace H:=Option.bind_eq_some_iff.mp H
 obtain ⟨t164,A40,H⟩:=H
 replace H : (if 9 + t164.size ≤ 9223372036854775807 then (if ((⟨#[72,84,84,80,47,49,46,49,32]⟩ : ByteArray) ++ t164).size + 1 ≤ 9223372036854775807 then ((spec_StatusWord.f a0).bind fun t165 => (if (((⟨#[72,84,84,80,47,49,46,49,32]⟩ : ByteArray) ++ t164) ++ (⟨#[32]⟩ : ByteArray)).size + t165.size ≤ 9223372036854775807 then (if ((((⟨#[72,84,84,80,47,49,46,49,32]⟩ : ByteArray) ++ t164) ++ (⟨#[32]⟩ : ByteArray)) ++ t165).size + 2 ≤ 9223372036854775807 then (if a1.toList = ([] : List UInt8) then (if (((((⟨#[72,84,84,80,47,49,46,49,32]⟩ : ByteArray) ++ t164) ++ (⟨#[32]⟩ : ByteArray)) ++ t165) ++ (⟨#[13,10]⟩ : ByteArray)).size + 16 ≤ 9223372036854775807 then ((spec_l00Digits.f k (a2.size : Int)).bind fun t166 => (if ((((((⟨#[72,84,84,80,47,49,46,49,32]⟩ : ByteArray) ++ t164) ++ (⟨#[32]⟩ : ByteArray)) ++ t165) ++ (⟨#[13,10]⟩ : ByteArray)) ++ (⟨#[67,111,110,116,101,110,116,45,76,101,110,103,116,104,58,32]⟩ : ByteArray)).size + t166.size ≤ 9223372036854775807 then (if (((((((⟨#[72,84,84,80,47,49,46,49,32]⟩ : ByteArray) ++ t164) ++ (⟨#[32]⟩ : ByteArray)) ++ t165) ++ (⟨#[13,10]⟩ : ByteArray)) ++ (⟨#[67,111,110,116,101,110,116,45,76,101,110,103,116,104,58,32]⟩ : ByteArray)) ++ t166).size + 23 ≤ 9223372036854775807 then (if ((((((((⟨#[72,84,84,80,47,49,46,49,32]⟩ : ByteArray) ++ t164) ++ (⟨#[32]⟩ : ByteArray)) ++ t165) ++ (⟨#[13,10]⟩ : ByteArray)) ++ (⟨#[67,111,110,116,101,110,116,45,76,101,110,103,116,104,58,32]⟩ : ByteArray)) ++ t166) ++ (⟨#[13,10,67,111,110,110,101,99,116,105,111,110,58,32,99,108,111,115,101,13,10,13,10]⟩ : ByteArray)).size + a2.size ≤ 9223372036854775807 then (some (((((((((⟨#[72,84,84,80,47,49,46,49,32]⟩ : ByteArray) ++ t164) ++ (⟨#[32]⟩ : ByteArray)) ++ t165) ++ (⟨#[13,10]⟩ : ByteArray)) ++ (⟨#[67,111,110,116,101,110,116,45,76,101,110,103,116,104,58,32]⟩ : ByteArray)) ++ t166) ++ (⟨#[13,10,67,111,110,110,101,99,116,105,111,110,58,32,99,108,111,115,101,13,10,13,10]⟩ : ByteArray)) ++ a2)) else (none)) else (none)) else (none))) else (none)) else (if 10 + a1.size ≤ 9223372036854775807 then (if ((⟨#[76,111,99,97,116,105,111,110,58,32]⟩ : ByteArray) ++ a1).size + 2 ≤ 9223372036854775807 then (if (((((⟨#[72,84,84,80,47,49,46,49,32]⟩ : ByteArray) ++ t164) ++ (⟨#[32]⟩ : ByteArray)) ++ t165) ++ (⟨#[13,10]⟩ : ByteArray)).size + (((⟨#[76,111,99,97,116,105,111,110,58,32]⟩ : ByteArray) ++ a1) ++ (⟨#[13,10]⟩ : ByteArray)).size ≤ 9223372036854775807 then (if ((((((⟨#[72,84,84,80,47,49,46,49,32]⟩ : ByteArray) ++ t164) ++ (⟨#[32]⟩ : ByteArray)) ++ t165) ++ (⟨#[13,10]⟩ : ByteArray)) ++ (((⟨#[76,111,99,97,116,105,111,110,58,32]⟩ : ByteArray) ++ a1) ++ (⟨#[13,10]⟩ : ByteArray))).size + 16 ≤ 9223372036854775807 then ((spec_l00Digits.f k (a2.size : Int)).bind fun t167 => (if (((((((⟨#[72,84,84,80,47,49,46,49,32]⟩ : ByteArray) ++ t164) ++ (⟨#[32]⟩ : ByteArray)) ++ t165) ++ (⟨#[13,10]⟩ : ByteArray)) ++ (((⟨#[76,111,99,97,116,105,111,110,58,32]⟩ : ByteArray) ++ a1) ++ (⟨#[13,10]⟩ : ByteArray))) ++ (⟨#[67,111,110,116,101,110,116,45,76,101,110,103,116,104,58,32]⟩ : ByteArray)).size + t167.size ≤ 9223372036854775807 then (if ((((((((⟨#[72,84,84,80,47,49,46,49,32]⟩ : ByteArray) ++ t164) ++ (⟨#[32]⟩ : ByteArray)) ++ t165) ++ (⟨#[13,10]⟩ : ByteArray)) ++ (((⟨#[76,111,99,97,116,105,111,110,58,32]⟩ : ByteArray) ++ a1) ++ (⟨#[13,10]⟩ : ByteArray))) ++ (⟨#[67,111,110,116,101,110,116,45,76,101,110,103,116,104,58,32]⟩ : ByteArray)) ++ t167).size + 23 ≤ 9223372036854775807 then (if (((((((((⟨#[72,84,84,80,47,49,46,49,32]⟩ : ByteArray) ++ t164) ++ (⟨#[32]⟩ : ByteArray)) ++ t165) ++ (⟨#[13,10]⟩ : ByteArray)) ++ (((⟨#[76,111,99,97,116,105,111,110,58,32]⟩ : ByteArray) ++ a1) ++ (⟨#[13,10]⟩ : ByteArray))) ++ (⟨#[67,111,110,116,101,110,116,45,76,101,110,103,116,104,58,32]⟩ : ByteArray)) ++ t167) ++ (⟨#[13,10,67,111,110,110,101,99,116,105,111,110,58,32,99,108,111,115,101,13,10,13,10]⟩ : ByteArray)).size + a2.size ≤ 9223372036854775807 then (some ((((((((((⟨#[72,84,84,80,47,49,46,49,32]⟩ : ByteArray) ++ t164) ++ (⟨#[32]⟩ : ByteArray)) ++ t165) ++ (⟨#[13,10]⟩ : ByteArray)) ++ (((⟨#[76,111,99,97,116,105,111,110,58,32]⟩ : ByteArray) ++ a1) ++ (⟨#[13,10]⟩ : ByteArray))) ++ (⟨#[67,111,110,116,101,110,116,45,76,101,110,103,116,104,58,32]⟩ : ByteArray)) ++ t167) ++ (⟨#[13,10,67,111,110,110,101,99,116,105,111,110,58,32,99,108,111,115,101,13,10,13,10]⟩ : ByteArray)) ++ a2)) else (none)) else (none)) else (none))) else (none)) else (none)) else (none)) else (none))) else (none)) else (none))) else (none)) else (none)) = some r:=H
 have A4:=aMk A40
 clear A40
 by_cases c5 : 9 + t164.size ≤ 9223372036854775807
 ·rw [if_pos c5] at H
  have c5b0:=eq_true c5
  have c5b1 : decide (9 + t164.size ≤ 9223372036854775807) = true:=decide_eq_true c5
  try have c5b2 : (9223372036854775807 < 9 + t164.size) = False:=eq_false (Nat.not_lt.2 c5)
  by_cases c6 : ((⟨#[72,84,84,80,47,49,46,49,32]⟩ : ByteArray) ++ t164).size + 1 ≤ 9223372036854775807
  ·rw [if_pos c6] at H
   have c6b0:=eq_true c6
   have c6b1 : decide (((⟨#[72,84,84,80,47,49,46,49,32]⟩ : ByteArray) ++ t164).size + 1 ≤ 9223372036854775807) = true:=decide_eq_true c6
   try have c6b2 : (9223372036854775807 < ((⟨#[72,84,84,80,47,49,46,49,32]⟩ : ByteArray) ++ t164).size + 1) = False:=eq_false (Nat.not_lt.2 c6)
   try have c6b3 : (9223372036854775807 < 9 + t164.size + 1) = False:=by rw [← show ((⟨#[72,84,84,80,47,49,46,49,32]⟩ : ByteArray) ++ t164).size = 9 + t164.size from by (simp only [ByteArray.size_append];rfl)];exact c6b2
   replace H:=Option.bind_eq_some_iff.mp H
   obtain ⟨t165,A70,H⟩:=H
   replace H : (if (((⟨#[72,84,84,80,47,49,46,49,32]⟩ : ByteArray) ++ t164) ++ (⟨#[32]⟩ : ByteArray)).size + t165.size ≤ 9223372036854775807 then (if ((((⟨#[72,84,84,80,47,49,46,49,32]⟩ : ByteArray) ++ t164) ++ (⟨#[32]⟩ : ByteArray)) ++ t165).size + 2 ≤ 9223372036854775807 then (if a1.toList = ([] : List UInt8) then (if (((((⟨#[72,84,84,80,47,49,46,49,32]⟩ : ByteArray) ++ t164) ++ (⟨#[32]⟩ : ByteArray)) ++ t165) ++ (⟨#[13,10]⟩ : ByteArray)).size + 16 ≤ 9223372036854775807 then ((spec_l00Digits.f k (a2.size : Int)).bind fun t166 => (if ((((((⟨#[72,84,84,80,47,49,46,49,32]⟩ : ByteArray) ++ t164) ++ (⟨#[32]⟩ : ByteArray)) ++ t165) ++ (⟨#[13,10]⟩ : ByteArray)) ++ (⟨#[67,111,110,116,101,110,116,45,76,101,110,103,116,104,58,32]⟩ : ByteArray)).size + t166.size ≤ 9223372036854775807 then (if (((((((⟨#[72,84,84,80,47,49,46,49,32]⟩ : ByteArray) ++ t164) ++ (⟨#[32]⟩ : ByteArray)) ++ t165) ++ (⟨#[13,10]⟩ : ByteArray)) ++ (⟨#[67,111,110,116,101,110,116,45,76,101,110,103,116,104,58,32]⟩ : ByteArray)) ++ t166).size + 23 ≤ 9223372036854775807 then (if ((((((((⟨#[72,84,84,80,47,49,46,49,32]⟩ : ByteArray) ++ t164) ++ (⟨#[32]⟩ : ByteArray)) ++ t165) ++ (⟨#[13,10]⟩ : ByteArray)) ++ (⟨#[67,111,110,116,101,110,116,45,76,101,110,103,116,104,58,32]⟩ : ByteArray)) ++ t166) ++ (⟨#[13,10,67,111,110,110,101,99,116,105,111,110,58,32,99,108,111,115,101,13,10,13,10]⟩ : ByteArray)).size + a2.size ≤ 9223372036854775807 then (some (((((((((⟨#[72,84,84,80,47,49,46,49,32]⟩ : ByteArray) ++ t164) ++ (⟨#[32]⟩ : ByteArray)) ++ t165) ++ (⟨#[13,10]⟩ : ByteArray)) ++ (⟨#[67,111,110,116,101,110,116,45,76,101,110,103,116,104,58,32]⟩ : ByteArray)) ++ t166) ++ (⟨#[13,10,67,111,110,110,101,99,116,105,111,110,58,32,99,108,111,115,101,13,10,13,10]⟩ : ByteArray)) ++ a2)) else (none)) else (none)) else (none))) else (none)) else (if 10 + a1.size ≤ 9223372036854775807 then (if ((⟨#[76,111,99,97,116,105,111,110,58,32]⟩ : ByteArray) ++ a1).size + 2 ≤ 9223372036854775807 then (if (((((⟨#[72,84,84,80,47,49,46,49,32]⟩ : ByteArray) ++ t164) ++ (⟨#[32]⟩ : ByteArray)) ++ t165) ++ (⟨#[13,10]⟩ : ByteArray)).size + (((⟨#[76,111,99,97,116,105,111,110,58,32]⟩ : ByteArray) ++ a1) ++ (⟨#[13,10]⟩ : ByteArray)).size ≤ 9223372036854775807 then (if ((((((⟨#[72,84,84,80,47,49,46,49,32]⟩ : ByteArray) ++ t164) ++ (⟨#[32]⟩ : ByteArray)) ++ t165) ++ (⟨#[13,10]⟩ : ByteArray)) ++ (((⟨#[76,111,99,97,116,105,111,110,58,32]⟩ : ByteArray) ++ a1) ++ (⟨#[13,10]⟩ : ByteArray))).size + 16 ≤ 9223372036854775807 then ((spec_l00Digits.f k (a2.size : Int)).bind fun t167 => (if (((((((⟨#[72,84,84,80,47,49,46,49,32]⟩ : ByteArray) ++ t164) ++ (⟨#[32]⟩ : ByteArray)) ++ t165) ++ (⟨#[13,10]⟩ : ByteArray)) ++ (((⟨#[76,111,99,97,116,105,111,110,58,32]⟩ : ByteArray) ++ a1) ++ (⟨#[13,10]⟩ : ByteArray))) ++ (⟨#[67,111,110,116,101,110,116,45,76,101,110,103,116,104,58,32]⟩ : ByteArray)).size + t167.size ≤ 9223372036854775807 then (if ((((((((⟨#[72,84,84,80,47,49,46,49,32]⟩ : ByteArray) ++ t164) ++ (⟨#[32]⟩ : ByteArray)) ++ t165) ++ (⟨#[13,10]⟩ : ByteArray)) ++ (((⟨#[76,111,99,97,116,105,111,110,58,32]⟩ : ByteArray) ++ a1) ++ (⟨#[13,10]⟩ : ByteArray))) ++ (⟨#[67,111,110,116,101,110,116,45,76,101,110,103,116,104,58,32]⟩ : ByteArray)) ++ t167).size + 23 ≤ 9223372036854775807 then (if (((((((((⟨#[72,84,84,80,47,49,46,49,32]⟩ : ByteArray) ++ t164) ++ (⟨#[32]⟩ : ByteArray)) ++ t165) ++ (⟨#[13,10]⟩ : ByteArray)) ++ (((⟨#[76,111,99,97,116,105,111,110,58,32]⟩ : ByteArray) ++ a1) ++ (⟨#[13,10]⟩ : ByteArray))) ++ (⟨#[67,111,110,116,101,110,116,45,76,101,110,103,116,104,58,32]⟩ : ByteArray)) ++ t167) ++ (⟨#[13,10,67,111,110,110,101,99,116,105,111,110,58,32,99,108,111,115,101,13,10,13,10]⟩ : ByteArray)).size + a2.size ≤ 9223372036854775807 then (some ((((((((((⟨#[72,84,84,80,47,49,46,49,32]⟩ : ByteArray) ++ t164) ++ (⟨#[32]⟩ : ByteArray)) ++ t165) ++ (⟨#[13,10]⟩ : ByteArray)) ++ (((⟨#[76,111,99,97,116,105,111,110,58,32]⟩ : ByteArray) ++ a1) ++ (⟨#[13,10]⟩ : ByteArray))) ++ (⟨#[67,111,110,116,101,110,116,45,76,101,110,103,116,104,58,32]⟩ : ByteArray)) ++ t167) ++ (⟨#[13,10,67,111,110,110,101,99,116,105,111,110,58,32,99,108,111,115,101,13,10,13,10]⟩ : ByteArray)) ++ a2)) else (none)) else (none)) else (none))) else (none)) else (none)) else (none)) else (none))) else (none)) else (none)) = some r:=H
   have A7:=aMk A70
   clear A70
   by_cases c8 : (((⟨#[72,84,84,80,47,49,46,49,32]⟩ : ByteArray) ++ t164) ++ (⟨#[32]⟩ : ByteArray)).size + t165.size ≤ 9223372036854775807
   ·rw [if_pos c8] at H
    have c8b0:=eq_true c8
    have c8b1 : decide ((((⟨#[72,84,84,80,47,49,46,49,32]⟩ : ByteArray) ++ t164) ++ (⟨#[32]⟩ : ByteArray)).size + t165.size ≤ 9223372036854775807) = true:=decide_eq_true c8
    try have c8b2 : (9223372036854775807 < (((⟨#[72,84,84,80,47,49,46,49,32]⟩ : ByteArray) ++ t164) ++ (⟨#[32]⟩ : ByteArray)).size + t165.size) = False:=eq_false (Nat.not_lt.2 c8)
    try have c8b3 : (9223372036854775807 < 9 + t164.size + 1 + t165.size) = False:=by rw [← show (((⟨#[72,84,84,80,47,49,46,49,32]⟩ : ByteArray) ++ t164) ++ (⟨#[32]⟩ : ByteArray)).size = 9 + t164.size + 1 from by (simp only [ByteArray.size_append];rfl)];exact c8b2
    by_cases c9 : ((((⟨#[72,84,84,80,47,49,46,49,32]⟩ : ByteArray) ++ t164) ++ (⟨#[32]⟩ : ByteArray)) ++ t165).size + 2 ≤ 9223372036854775807
    ·rw [if_pos c9] at H
     have c9b0:=eq_true c9
     have c9b1 : decide (((((⟨#[72,84,84,80,47,49,46,49,32]⟩ : ByteArray) ++ t164) ++ (⟨#[32]⟩ : ByteArray)) ++ t165).size + 2 ≤ 9223372036854775807) = true:=decide_eq_true c9
     try have c9b2 : (9223372036854775807 < ((((⟨#[72,84,84,80,47,49,46,49,32]⟩ : ByteArray) ++ t164) ++ (⟨#[32]⟩ : ByteArray)) ++ t165).size + 2) = False:=eq_false (Nat.not_lt.2 c9)
     try have c9b3 : (9223372036854775807 < 9 + t164.size + 1 + t165.size + 2) = False:=by rw [← show ((((⟨#[72,84,84,80,47,49,46,49,32]⟩ : ByteArray) ++ t164) ++ (⟨#[32]⟩ : ByteArray)) ++ t165).size = 9 + t164.size + 1 + t165.size from by (simp only [ByteArray.size_append];rfl)];exact c9b2
     by_cases c10 : a1.toList = ([] : List UInt8)
     ·rw [if_pos c10] at H
      have c10b0 : (a1.toList == ([] : List UInt8)) = true:=beq_iff_eq.mpr c10
      have c10b1 : (a1.toList != ([] : List UInt8)) = false:=bne_eq_false_iff_eq.mpr c10
      clear c10
      by_cases c11 : (((((⟨#[72,84,84,80,47,49,46,49,32]⟩ : ByteArray) ++ t164) ++ (⟨#[32]⟩ : ByteArray)) ++ t165) ++ (⟨#[13,10]⟩ : ByteArray)).size + 16 ≤ 9223372036854775807
      ·rw [if_pos c11] at H
       have c11b0:=eq_true c11
       have c11b1 : decide ((((((⟨#[72,84,84,80,47,49,46,49,32]⟩ : ByteArray) ++ t164) ++ (⟨#[32]⟩ : ByteArray)) ++ t165) ++ (⟨#[13,10]⟩ : ByteArray)).size + 16 ≤ 9223372036854775807) = true:=decide_eq_true c11
       try have c11b2 : (9223372036854775807 < (((((⟨#[72,84,84,80,47,49,46,49,32]⟩ : ByteArray) ++ t164) ++ (⟨#[32]⟩ : ByteArray)) ++ t165) ++ (⟨#[13,10]⟩ : ByteArray)).size + 16) = False:=eq_false (Nat.not_lt.2 c11)
       try have c11b3 : (9223372036854775807 < 9 + t164.size + 1 + t165.size + 2 + 16) = False:=by rw [← show (((((⟨#[72,84,84,80,47,49,46,49,32]⟩ : ByteArray) ++ t164) ++ (⟨#[32]⟩ : ByteArray)) ++ t165) ++ (⟨#[13,10]⟩ : ByteArray)).size = 9 + t164.size + 1 + t165.size + 2 from by (simp only [ByteArray.size_append];rfl)];exact c11b2
       replace H:=Option.bind_eq_some_iff.mp H
       obtain ⟨t166,A120,H⟩:=H
       replace H : (if ((((((⟨#[72,84,84,80,47,49,46,49,32]⟩ : ByteArray) ++ t164) ++ (⟨#[32]⟩ : ByteArray)) ++ t165) ++ (⟨#[13,10]⟩ : ByteArray)) ++ (⟨#[67,111,110,116,101,110,116,45,76,101,110,103,116,104,58,32]⟩ : ByteArray)).size + t166.size ≤ 9223372036854775807 then (if (((((((⟨#[72,84,84,80,47,49,46,49,32]⟩ : ByteArray) ++ t164) ++ (⟨#[32]⟩ : ByteArray)) ++ t165) ++ (⟨#[13,10]⟩ : ByteArray)) ++ (⟨#[67,111,110,116,101,110,116,45,76,101,110,103,116,104,58,32]⟩ : ByteArray)) ++ t166).size + 23 ≤ 9223372036854775807 then (if ((((((((⟨#[72,84,84,80,47,49,46,49,32]⟩ : ByteArray) ++ t164) ++ (⟨#[32]⟩ : ByteArray)) ++ t165) ++ (⟨#[13,10]⟩ : ByteArray)) ++ (⟨#[67,111,110,116,101,110,116,45,76,101,110,103,116,104,58,32]⟩ : ByteArray)) ++ t166) ++ (⟨#[13,10,67,111,110,110,101,99,116,105,111,110,58,32,99,108,111,115,101,13,10,13,10]⟩ : ByteArray)).size + a2.size ≤ 9223372036854775807 then (some (((((((((⟨#[72,84,84,80,47,49,46,49,32]⟩ : ByteArray) ++ t164) ++ (⟨#[32]⟩ : ByteArray)) ++ t165) ++ (⟨#[13,10]⟩ : ByteArray)) ++ (⟨#[67,111,110,116,101,110,116,45,76,101,110,103,116,104,58,32]⟩ : ByteArray)) ++ t166) ++ (⟨#[13,10,67,111,110,110,101,99,116,105,111,110,58,32,99,108,111,115,101,13,10,13,10]⟩ : ByteArray)) ++ a2)) else (none)) else (none)) else (none)) = some r:=H
       have A12:=aMk A120
       clear A120
       by_cases c13 : ((((((⟨#[72,84,84,80,47,49,46,49,32]⟩ : ByteArray) ++ t164) ++ (⟨#[32]⟩ : ByteArray)) ++ t165) ++ (⟨#[13,10]⟩ : ByteArray)) ++ (⟨#[67,111,110,116,101,110,116,45,76,101,110,103,116,104,58,32]⟩ : ByteArray)).size + t166.size ≤ 9223372036854775807
       ·rw [if_pos c13] at H
        have c13b0:=eq_true c13
        have c13b1 : decide (((((((⟨#[72,84,84,80,47,49,46,49,32]⟩ : ByteArray) ++ t164) ++ (⟨#[32]⟩ : ByteArray)) ++ t165) ++ (⟨#[13,10]⟩ : ByteArray)) ++ (⟨#[67,111,110,116,101,110,116,45,76,101,110,103,116,104,58,32]⟩ : ByteArray)).size + t166.size ≤ 9223372036854775807) = true:=decide_eq_true c13
        try have c13b2 : (9223372036854775807 < ((((((⟨#[72,84,84,80,47,49,46,49,32]⟩ : ByteArray) ++ t164) ++ (⟨#[32]⟩ : ByteArray)) ++ t165) ++ (⟨#[13,10]⟩ : ByteArray)) ++ (⟨#[67,111,110,116,101,110,116,45,76,101,110,103,116,104,58,32]⟩ : ByteArray)).size + t166.size) = False:=eq_false (Nat.not_lt.2 c13)
        try have c13b3 : (9223372036854775807 < 9 + t164.size + 1 + t165.size + 2 + 16 + t166.size) = False:=by rw [← show ((((((⟨#[72,84,84,80,47,49,46,49,32]⟩ : ByteArray) ++ t164) ++ (⟨#[32]⟩ : ByteArray)) ++ t165) ++ (⟨#[13,10]⟩ : ByteArray)) ++ (⟨#[67,111,110,116,101,110,116,45,76,101,110,103,116,104,58,32]⟩ : ByteArray)).size = 9 + t164.size + 1 + t165.size + 2 + 16 from by (simp only [ByteArray.size_append];rfl)];exact c13b2
        by_cases c14 : (((((((⟨#[72,84,84,80,47,49,46,49,32]⟩ : ByteArray) ++ t164) ++ (⟨#[32]⟩ : ByteArray)) ++ t165) ++ (⟨#[13,10]⟩ : ByteArray)) ++ (⟨#[67,111,110,116,101,110,116,45,76,101,110,103,116,104,58,32]⟩ : ByteArray)) ++ t166).size + 23 ≤ 9223372036854775807
        ·rw [if_pos c14] at H
         have c14b0:=eq_true c14
         have c14b1 : decide ((((((((⟨#[72,84,84,80,47,49,46,49,32]⟩ : ByteArray) ++ t164) ++ (⟨#[32]⟩ : ByteArray)) ++ t165) ++ (⟨#[13,10]⟩ : ByteArray)) ++ (⟨#[67,111,110,116,101,110,116,45,76,101,110,103,116,104,58,32]⟩ : ByteArray)) ++ t166).size + 23 ≤ 9223372036854775807) = true:=decide_eq_true c14
         try have c14b2 : (9223372036854775807 < (((((((⟨#[72,84,84,80,47,49,46,49,32]⟩ : ByteArray) ++ t164) ++ (⟨#[32]⟩ : ByteArray)) ++ t165) ++ (⟨#[13,10]⟩ : ByteArray)) ++ (⟨#[67,111,110,116,101,110,116,45,76,101,110,103,116,104,58,32]⟩ : ByteArray)) ++ t166).size + 23) = False:=eq_false (Nat.not_lt.2 c14)
         try have c14b3 : (9223372036854775807 < 9 + t164.size + 1 + t165.size + 2 + 16 + t166.size + 23) = False:=by rw [← show (((((((⟨#[72,84,84,80,47,49,46,49,32]⟩ : ByteArray) ++ t164) ++ (⟨#[32]⟩ : ByteArray)) ++ t165) ++ (⟨#[13,10]⟩ : ByteArray)) ++ (⟨#[67,111,110,116,101,110,116,45,76,101,110,103,116,104,58,32]⟩ : ByteArray)) ++ t166).size = 9 + t164.size + 1 + t165.size + 2 + 16 + t166.size from by (simp only [ByteArray.size_append];rfl)];exact c14b2
         by_cases c15 : ((((((((⟨#[72,84,84,80,47,49,46,49,32]⟩ : ByteArray) ++ t164) ++ (⟨#[32]⟩ : ByteArray)) ++ t165) ++ (⟨#[13,10]⟩ : ByteArray)) ++ (⟨#[67,111,110,116,101,110,116,45,76,101,110,103,116,104,58,32]⟩ : ByteArray)) ++ t166) ++ (⟨#[13,10,67,111,110,110,101,99,116,105,111,110,58,32,99,108,111,115,101,13,10,13,10]⟩ : ByteArray)).size + a2.size ≤ 9223372036854775807
         ·rw [if_pos c15] at H
          have c15b0:=eq_true c15
          have c15b1 : decide (((((((((⟨#[72,84,84,80,47,49,46,49,32]⟩ : ByteArray) ++ t164) ++ (⟨#[32]⟩ : ByteArray)) ++ t165) ++ (⟨#[13,10]⟩ : ByteArray)) ++ (⟨#[67,111,110,116,101,110,116,45,76,101,110,103,116,104,58,32]⟩ : ByteArray)) ++ t166) ++ (⟨#[13,10,67,111,110,110,101,99,116,105,111,110,58,32,99,108,111,115,101,13,10,13,10]⟩ : ByteArray)).size + a2.size ≤ 9223372036854775807) = true:=decide_eq_true c15
          try have c15b2 : (9223372036854775807 < ((((((((⟨#[72,84,84,80,47,49,46,49,32]⟩ : ByteArray) ++ t164) ++ (⟨#[32]⟩ : ByteArray)) ++ t165) ++ (⟨#[13,10]⟩ : ByteArray)) ++ (⟨#[67,111,110,116,101,110,116,45,76,101,110,103,116,104,58,32]⟩ : ByteArray)) ++ t166) ++ (⟨#[13,10,67,111,110,110,101,99,116,105,111,110,58,32,99,108,111,115,101,13,10,13,10]⟩ : ByteArray)).size + a2.size) = False:=eq_false (Nat.not_lt.2 c15)
          try have c15b3 : (9223372036854775807 < 9 + t164.size + 1 + t165.size + 2 + 16 + t166.size + 23 + a2.size) = False:=by rw [← show ((((((((⟨#[72,84,84,80,47,49,46,49,32]⟩ : ByteArray) ++ t164) ++ (⟨#[32]⟩ : ByteArray)) ++ t165) ++ (⟨#[13,10]⟩ : ByteArray)) ++ (⟨#[67,111,110,116,101,110,116,45,76,101,110,103,116,104,58,32]⟩ : ByteArray)) ++ t166) ++ (⟨#[13,10,67,111,110,110,101,99,116,105,111,110,58,32,99,108,111,115,101,13,10,13,10]⟩ : ByteArray)).size = 9 + t164.size + 1 + t165.size + 2 + 16 + t166.size + 23 from by (simp only [ByteArray.size_append];rfl)];exact c15b2
          obtain rfl:=Option.some.inj H
          go_enter Tryd.func37,Tryd.ntmps37
          go_wp2_with (first|((with_reducible refine gate_callee (f:=56) rfl ?_);refine goesL_ (some 9) rfl rfl Tryd.func56 (by kernel_rfl) rfl #[.int .i64 a0] rfl (by (try simp only [List.map_toArray,List.map_cons,List.map_nil]);first | done | rfl|(simp only [List.length_drop,List.length_take];rfl)) ?_;(with_reducible refine (spec_l00Digits.calls k a0 t164 _ A4.out).mono ?_);rintro e w16 ⟨rfl,hb⟩;refine ⟨_,rfl,?_⟩;have n0_:=aMk (below_step (by repeat first|exact HB.out|apply bwA|apply bwN|apply bw1) hb);clear HB;have HB:=n0_;clear n0_;(try clear hb);(try clear hb2);(try clear hk);(try clear hi))|((with_reducible refine gate_callee (f:=28) rfl ?_);refine goesL_ (some 13) rfl rfl Tryd.func28 (by kernel_rfl) rfl #[.int .i64 a0] rfl (by (try simp only [List.map_toArray,List.map_cons,List.map_nil]);first | done | rfl|(simp only [List.length_drop,List.length_take];rfl)) ?_;(with_reducible refine (spec_StatusWord.calls a0 t165 _ A7.out).mono ?_);rintro e w' ⟨rfl,⟨nd,rfl⟩⟩;refine ⟨_,rfl,?_⟩)|((with_reducible refine gate_callee (f:=56) rfl ?_);refine goesL_ (some 27) rfl rfl Tryd.func56 (by kernel_rfl) rfl #[.int .i64 (a2.size : Int)] rfl (by (try simp only [List.map_toArray,List.map_cons,List.map_nil]);first | done | rfl|(simp only [List.length_drop,List.length_take];rfl)) ?_;(with_reducible refine (spec_l00Digits.calls k (a2.size : Int) t166 _ A12.out).mono ?_);rintro e w17 ⟨rfl,hb⟩;refine ⟨_,rfl,?_⟩;have n0_:=aMk (below_step (by repeat first|exact HB.out|apply bwA|apply bwN|apply bw1) hb);clear HB;have HB:=n0_;clear n0_;(try clear hb);(try clear hb2);(try clear hk);(try clear hi)))
          go_ret
          exact ⟨by first | rfl|(simp [errW_none,errW_some] <;> rfl)|(simp [*,errW_none,errW_some] <;> rfl),by repeat (first|(with_reducible first|exact HB.out|apply bwA|apply bwN|apply bw1)|exact HB.out)⟩
         ·rw [if_neg c15] at H
          exact absurd H (by simp)
        ·rw [if_neg c14] at H
         exact absurd H (by simp)
       ·rw [if_neg c13] at H
        exact absurd H (by simp)
      ·rw [if_neg c11] at H
       exact absurd H (by simp)
     ·rw [if_neg c10] at H
      have c10b0 : (a1.toList == ([] : List UInt8)) = false:=beq_eq_false_iff_ne.mpr c10
      have c10b1 : (a1.toList != ([] : List UInt8)) = true:=bne_iff_ne.mpr c10
      by_cases c18 : 10 + a1.size ≤ 9223372036854775807
      ·rw [if_pos c18] at H
       have c18b0:=eq_true c18
       have c18b1 : decide (10 + a1.size ≤ 9223372036854775807) = true:=decide_eq_true c18
       try have c18b2 : (9223372036854775807 < 10 + a1.size) = False:=eq_false (Nat.not_lt.2 c18)
       by_cases c19 : ((⟨#[76,111,99,97,116,105,111,110,58,32]⟩ : ByteArray) ++ a1).size + 2 ≤ 9223372036854775807
       ·rw [if_pos c19] at H
        have c19b0:=eq_true c19
        have c19b1 : decide (((⟨#[76,111,99,97,116,105,111,110,58,32]⟩ : ByteArray) ++ a1).size + 2 ≤ 9223372036854775807) = true:=decide_eq_true c19
        try have c19b2 : (9223372036854775807 < ((⟨#[76,111,99,97,116,105,111,110,58,32]⟩ : ByteArray) ++ a1).size + 2) = False:=eq_false (Nat.not_lt.2 c19)
        try have c19b3 : (9223372036854775807 < 10 + a1.size + 2) = False:=by rw [← show ((⟨#[76,111,99,97,116,105,111,110,58,32]⟩ : ByteArray) ++ a1).size = 10 + a1.size from by (simp only [ByteArray.size_append];rfl)];exact c19b2
        by_cases c20 : (((((⟨#[72,84,84,80,47,49,46,49,32]⟩ : ByteArray) ++ t164) ++ (⟨#[32]⟩ : ByteArray)) ++ t165) ++ (⟨#[13,10]⟩ : ByteArray)).size + (((⟨#[76,111,99,97,116,105,111,110,58,32]⟩ : ByteArray) ++ a1) ++ (⟨#[13,10]⟩ : ByteArray)).size ≤ 9223372036854775807
        ·rw [if_pos c20] at H
         have c20b0:=eq_true c20
         have c20b1 : decide ((((((⟨#[72,84,84,80,47,49,46,49,32]⟩ : ByteArray) ++ t164) ++ (⟨#[32]⟩ : ByteArray)) ++ t165) ++ (⟨#[13,10]⟩ : ByteArray)).size + (((⟨#[76,111,99,97,116,105,111,110,58,32]⟩ : ByteArray) ++ a1) ++ (⟨#[13,10]⟩ : ByteArray)).size ≤ 9223372036854775807) = true:=decide_eq_true c20
         try have c20b2 : (9223372036854775807 < (((((⟨#[72,84,84,80,47,49,46,49,32]⟩ : ByteArray) ++ t164) ++ (⟨#[32]⟩ : ByteArray)) ++ t165) ++ (⟨#[13,10]⟩ : ByteArray)).size + (((⟨#[76,111,99,97,116,105,111,110,58,32]⟩ : ByteArray) ++ a1) ++ (⟨#[13,10]⟩ : ByteArray)).size) = False:=eq_false (Nat.not_lt.2 c20)
         try have c20b3 : (9223372036854775807 < 9 + t164.size + 1 + t165.size + 2 + (((⟨#[76,111,99,97,116,105,111,110,58,32]⟩ : ByteArray) ++ a1) ++ (⟨#[13,10]⟩ : ByteArray)).size) = False:=by rw [← show (((((⟨#[72,84,84,80,47,49,46,49,32]⟩ : ByteArray) ++ t164) ++ (⟨#[32]⟩ : ByteArray)) ++ t165) ++ (⟨#[13,10]⟩ : ByteArray)).size = 9 + t164.size + 1 + t165.size + 2 from by (simp only [ByteArray.size_append];rfl)];exact c20b2
         by_cases c21 : ((((((⟨#[72,84,84,80,47,49,46,49,32]⟩ : ByteArray) ++ t164) ++ (⟨#[32]⟩ : ByteArray)) ++ t165) ++ (⟨#[13,10]⟩ : ByteArray)) ++ (((⟨#[76,111,99,97,116,105,111,110,58,32]⟩ : ByteArray) ++ a1) ++ (⟨#[13,10]⟩ : ByteArray))).size + 16 ≤ 9223372036854775807
         ·rw [if_pos c21] at H
          have c21b0:=eq_true c21
          have c21b1 : decide (((((((⟨#[72,84,84,80,47,49,46,49,32]⟩ : ByteArray) ++ t164) ++ (⟨#[32]⟩ : ByteArray)) ++ t165) ++ (⟨#[13,10]⟩ : ByteArray)) ++ (((⟨#[76,111,99,97,116,105,111,110,58,32]⟩ : ByteArray) ++ a1) ++ (⟨#[13,10]⟩ : ByteArray))).size + 16 ≤ 9223372036854775807) = true:=decide_eq_true c21
          try have c21b2 : (9223372036854775807 < ((((((⟨#[72,84,84,80,47,49,46,49,32]⟩ : ByteArray) ++ t164) ++ (⟨#[32]⟩ : ByteArray)) ++ t165) ++ (⟨#[13,10]⟩ : ByteArray)) ++ (((⟨#[76,111,99,97,116,105,111,110,58,32]⟩ : ByteArray) ++ a1) ++ (⟨#[13,10]⟩ : ByteArray))).size + 16) = False:=eq_false (Nat.not_lt.2 c21)
          try have c21b3 : (9223372036854775807 < 9 + t164.size + 1 + t165.size + 2 + (10 + a1.size + 2) + 16) = False:=by rw [← show ((((((⟨#[72,84,84,80,47,49,46,49,32]⟩ : ByteArray) ++ t164) ++ (⟨#[32]⟩ : ByteArray)) ++ t165) ++ (⟨#[13,10]⟩ : ByteArray)) ++ (((⟨#[76,111,99,97,116,105,111,110,58,32]⟩ : ByteArray) ++ a1) ++ (⟨#[13,10]⟩ : ByteArray))).size = 9 + t164.size + 1 + t165.size + 2 + (10 + a1.size + 2) from by (simp only [ByteArray.size_append];rfl)];exact c21b2
          replace H:=Option.bind_eq_some_iff.mp H
          obtain ⟨t167,A220,H⟩:=H
          replace H : (if (((((((⟨#[72,84,84,80,47,49,46,49,32]⟩ : ByteArray) ++ t164) ++ (⟨#[32]⟩ : ByteArray)) ++ t165) ++ (⟨#[13,10]⟩ : ByteArray)) ++ (((⟨#[76,111,99,97,116,105,111,110,58,32]⟩ : ByteArray) ++ a1) ++ (⟨#[13,10]⟩ : ByteArray))) ++ (⟨#[67,111,110,116,101,110,116,45,76,101,110,103,116,104,58,32]⟩ : ByteArray)).size + t167.size ≤ 9223372036854775807 then (if ((((((((⟨#[72,84,84,80,47,49,46,49,32]⟩ : ByteArray) ++ t164) ++ (⟨#[32]⟩ : ByteArray)) ++ t165) ++ (⟨#[13,10]⟩ : ByteArray)) ++ (((⟨#[76,111,99,97,116,105,111,110,58,32]⟩ : ByteArray) ++ a1) ++ (⟨#[13,10]⟩ : ByteArray))) ++ (⟨#[67,111,110,116,101,110,116,45,76,101,110,103,116,104,58,32]⟩ : ByteArray)) ++ t167).size + 23 ≤ 9223372036854775807 then (if (((((((((⟨#[72,84,84,80,47,49,46,49,32]⟩ : ByteArray) ++ t164) ++ (⟨#[32]⟩ : ByteArray)) ++ t165) ++ (⟨#[13,10]⟩ : ByteArray)) ++ (((⟨#[76,111,99,97,116,105,111,110,58,32]⟩ : ByteArray) ++ a1) ++ (⟨#[13,10]⟩ : ByteArray))) ++ (⟨#[67,111,110,116,101,110,116,45,76,101,110,103,116,104,58,32]⟩ : ByteArray)) ++ t167) ++ (⟨#[13,10,67,111,110,110,101,99,116,105,111,110,58,32,99,108,111,115,101,13,10,13,10]⟩ : ByteArray)).size + a2.size ≤ 9223372036854775807 then (some ((((((((((⟨#[72,84,84,80,47,49,46,49,32]⟩ : ByteArray) ++ t164) ++ (⟨#[32]⟩ : ByteArray)) ++ t165) ++ (⟨#[13,10]⟩ : ByteArray)) ++ (((⟨#[76,111,99,97,116,105,111,110,58,32]⟩ : ByteArray) ++ a1) ++ (⟨#[13,10]⟩ : ByteArray))) ++ (⟨#[67,111,110,116,101,110,116,45,76,101,110,103,116,104,58,32]⟩ : ByteArray)) ++ t167) ++ (⟨#[13,10,67,111,110,110,101,99,116,105,111,110,58,32,99,108,111,115,101,13,10,13,10]⟩ : ByteArray)) ++ a2)) else (none)) else (none)) else (none)) = some r:=H
          have A22:=aMk A220
          clear A220
          by_cases c23 : (((((((⟨#[72,84,84,80,47,49,46,49,32]⟩ : ByteArray) ++ t164) ++ (⟨#[32]⟩ : ByteArray)) ++ t165) ++ (⟨#[13,10]⟩ : ByteArray)) ++ (((⟨#[76,111,99,97,116,105,111,110,58,32]⟩ : ByteArray) ++ a1) ++ (⟨#[13,10]⟩ : ByteArray))) ++ (⟨#[67,111,110,116,101,110,116,45,76,101,110,103,116,104,58,32]⟩ : ByteArray)).size + t167.size ≤ 9223372036854775807
          ·rw [if_pos c23] at H
           have c23b0:=eq_true c23
           have c23b1 : decide ((((((((⟨#[72,84,84,80,47,49,46,49,32]⟩ : ByteArray) ++ t164) ++ (⟨#[32]⟩ : ByteArray)) ++ t165) ++ (⟨#[13,10]⟩ : ByteArray)) ++ (((⟨#[76,111,99,97,116,105,111,110,58,32]⟩ : ByteArray) ++ a1) ++ (⟨#[13,10]⟩ : ByteArray))) ++ (⟨#[67,111,110,116,101,110,116,45,76,101,110,103,116,104,58,32]⟩ : ByteArray)).size + t167.size ≤ 9223372036854775807) = true:=decide_eq_true c23
           try have c23b2 : (9223372036854775807 < (((((((⟨#[72,84,84,80,47,49,46,49,32]⟩ : ByteArray) ++ t164) ++ (⟨#[32]⟩ : ByteArray)) ++ t165) ++ (⟨#[13,10]⟩ : ByteArray)) ++ (((⟨#[76,111,99,97,116,105,111,110,58,32]⟩ : ByteArray) ++ a1) ++ (⟨#[13,10]⟩ : ByteArray))) ++ (⟨#[67,111,110,116,101,110,116,45,76,101,110,103,116,104,58,32]⟩ : ByteArray)).size + t167.size) = False:=eq_false (Nat.not_lt.2 c23)
           try have c23b3 : (9223372036854775807 < 9 + t164.size + 1 + t165.size + 2 + (10 + a1.size + 2) + 16 + t167.size) = False:=by rw [← show (((((((⟨#[72,84,84,80,47,49,46,49,32]⟩ : ByteArray) ++ t164) ++ (⟨#[32]⟩ : ByteArray)) ++ t165) ++ (⟨#[13,10]⟩ : ByteArray)) ++ (((⟨#[76,111,99,97,116,105,111,110,58,32]⟩ : ByteArray) ++ a1) ++ (⟨#[13,10]⟩ : ByteArray))) ++ (⟨#[67,111,110,116,101,110,116,45,76,101,110,103,116,104,58,32]⟩ : ByteArray)).size = 9 + t164.size + 1 + t165.size + 2 + (10 + a1.size + 2) + 16 from by (simp only [ByteArray.size_append];rfl)];exact c23b2
           by_cases c24 : ((((((((⟨#[72,84,84,80,47,49,46,49,32]⟩ : ByteArray) ++ t164) ++ (⟨#[32]⟩ : ByteArray)) ++ t165) ++ (⟨#[13,10]⟩ : ByteArray)) ++ (((⟨#[76,111,99,97,116,105,111,110,58,32]⟩ : ByteArray) ++ a1) ++ (⟨#[13,10]⟩ : ByteArray))) ++ (⟨#[67,111,110,116,101,110,116,45,76,101,110,103,116,104,58,32]⟩ : ByteArray)) ++ t167).size + 23 ≤ 9223372036854775807
           ·rw [if_pos c24] at H
            have c24b0:=eq_true c24
            have c24b1 : decide (((((((((⟨#[72,84,84,80,47,49,46,49,32]⟩ : ByteArray) ++ t164) ++ (⟨#[32]⟩ : ByteArray)) ++ t165) ++ (⟨#[13,10]⟩ : ByteArray)) ++ (((⟨#[76,111,99,97,116,105,111,110,58,32]⟩ : ByteArray) ++ a1) ++ (⟨#[13,10]⟩ : ByteArray))) ++ (⟨#[67,111,110,116,101,110,116,45,76,101,110,103,116,104,58,32]⟩ : ByteArray)) ++ t167).size + 23 ≤ 9223372036854775807) = true:=decide_eq_true c24
            try have c24b2 : (9223372036854775807 < ((((((((⟨#[72,84,84,80,47,49,46,49,32]⟩ : ByteArray) ++ t164) ++ (⟨#[32]⟩ : ByteArray)) ++ t165) ++ (⟨#[13,10]⟩ : ByteArray)) ++ (((⟨#[76,111,99,97,116,105,111,110,58,32]⟩ : ByteArray) ++ a1) ++ (⟨#[13,10]⟩ : ByteArray))) ++ (⟨#[67,111,110,116,101,110,116,45,76,101,110,103,116,104,58,32]⟩ : ByteArray)) ++ t167).size + 23) = False:=eq_false (Nat.not_lt.2 c24)
            try have c24b3 : (9223372036854775807 < 9 + t164.size + 1 + t165.size + 2 + (10 + a1.size + 2) + 16 + t167.size + 23) = False:=by rw [← show ((((((((⟨#[72,84,84,80,47,49,46,49,32]⟩ : ByteArray) ++ t164) ++ (⟨#[32]⟩ : ByteArray)) ++ t165) ++ (⟨#[13,10]⟩ : ByteArray)) ++ (((⟨#[76,111,99,97,116,105,111,110,58,32]⟩ : ByteArray) ++ a1) ++ (⟨#[13,10]⟩ : ByteArray))) ++ (⟨#[67,111,110,116,101,110,116,45,76,101,110,103,116,104,58,32]⟩ : ByteArray)) ++ t167).size = 9 + t164.size + 1 + t165.size + 2 + (10 + a1.size + 2) + 16 + t167.size from by (simp only [ByteArray.size_append];rfl)];exact c24b2
            by_cases c25 : (((((((((⟨#[72,84,84,80,47,49,46,49,32]⟩ : ByteArray) ++ t164) ++ (⟨#[32]⟩ : ByteArray)) ++ t165) ++ (⟨#[13,10]⟩ : ByteArray)) ++ (((⟨#[76,111,99,97,116,105,111,110,58,32]⟩ : ByteArray) ++ a1) ++ (⟨#[13,10]⟩ : ByteArray))) ++ (⟨#[67,111,110,116,101,110,116,45,76,101,110,103,116,104,58,32]⟩ : ByteArray)) ++ t167) ++ (⟨#[13,10,67,111,110,110,101,99,116,105,111,110,58,32,99,108,111,115,101,13,10,13,10]⟩ : ByteArray)).size + a2.size ≤ 9223372036854775807
            ·rw [if_pos c25] at H
             have c25b0:=eq_true c25
             have c25b1 : decide ((((((((((⟨#[72,84,84,80,47,49,46,49,32]⟩ : ByteArray) ++ t164) ++ (⟨#[32]⟩ : ByteArray)) ++ t165) ++ (⟨#[13,10]⟩ : ByteArray)) ++ (((⟨#[76,111,99,97,116,105,111,110,58,32]⟩ : ByteArray) ++ a1) ++ (⟨#[13,10]⟩ : ByteArray))) ++ (⟨#[67,111,110,116,101,110,116,45,76,101,110,103,116,104,58,32]⟩ : ByteArray)) ++ t167) ++ (⟨#[13,10,67,111,110,110,101,99,116,105,111,110,58,32,99,108,111,115,101,13,10,13,10]⟩ : ByteArray)).size + a2.size ≤ 9223372036854775807) = true:=decide_eq_true c25
             try have c25b2 : (9223372036854775807 < (((((((((⟨#[72,84,84,80,47,49,46,49,32]⟩ : ByteArray) ++ t164) ++ (⟨#[32]⟩ : ByteArray)) ++ t165) ++ (⟨#[13,10]⟩ : ByteArray)) ++ (((⟨#[76,111,99,97,116,105,111,110,58,32]⟩ : ByteArray) ++ a1) ++ (⟨#[13,10]⟩ : ByteArray))) ++ (⟨#[67,111,110,116,101,110,116,45,76,101,110,103,116,104,58,32]⟩ : ByteArray)) ++ t167) ++ (⟨#[13,10,67,111,110,110,101,99,116,105,111,110,58,32,99,108,111,115,101,13,10,13,10]⟩ : ByteArray)).size + a2.size) = False:=eq_false (Nat.not_lt.2 c25)
             try have c25b3 : (9223372036854775807 < 9 + t164.size + 1 + t165.size + 2 + (10 + a1.size + 2) + 16 + t167.size + 23 + a2.size) = False:=by rw [← show (((((((((⟨#[72,84,84,80,47,49,46,49,32]⟩ : ByteArray) ++ t164) ++ (⟨#[32]⟩ : ByteArray)) ++ t165) ++ (⟨#[13,10]⟩ : ByteArray)) ++ (((⟨#[76,111,99,97,116,105,111,110,58,32]⟩ : ByteArray) ++ a1) ++ (⟨#[13,10]⟩ : ByteArray))) ++ (⟨#[67,111,110,116,101,110,116,45,76,101,110,103,116,104,58,32]⟩ : ByteArray)) ++ t167) ++ (⟨#[13,10,67,111,110,110,101,99,116,105,111,110,58,32,99,108,111,115,101,13,10,13,10]⟩ : ByteArray)).size = 9 + t164.size + 1 + t165.size + 2 + (10 + a1.size + 2) + 16 + t167.size + 23 from by (simp only [ByteArray.size_append];rfl)];exact c25b2
             obtain rfl:=Option.some.inj H
             go_enter Tryd.func37,Tryd.ntmps37
             go_wp2_with (first|((with_reducible refine gate_callee (f:=56) rfl ?_);refine goesL_ (some 9) rfl rfl Tryd.func56 (by kernel_rfl) rfl #[.int .i64 a0] rfl (by (try simp only [List.map_toArray,List.map_cons,List.map_nil]);first | done | rfl|(simp only [List.length_drop,List.length_take];rfl)) ?_;(with_reducible refine (spec_l00Digits.calls k a0 t164 _ A4.out).mono ?_);rintro e w26 ⟨rfl,hb⟩;refine ⟨_,rfl,?_⟩;have n0_:=aMk (below_step (by repeat first|exact HB.out|apply bwA|apply bwN|apply bw1) hb);clear HB;have HB:=n0_;clear n0_;(try clear hb);(try clear hb2);(try clear hk);(try clear hi))|((with_reducible refine gate_callee (f:=28) rfl ?_);refine goesL_ (some 13) rfl rfl Tryd.func28 (by kernel_rfl) rfl #[.int .i64 a0] rfl (by (try simp only [List.map_toArray,List.map_cons,List.map_nil]);first | done | rfl|(simp only [List.length_drop,List.length_take];rfl)) ?_;(with_reducible refine (spec_StatusWord.calls a0 t165 _ A7.out).mono ?_);rintro e w' ⟨rfl,⟨nd,rfl⟩⟩;refine ⟨_,rfl,?_⟩)|((with_reducible refine gate_callee (f:=56) rfl ?_);refine goesL_ (some 27) rfl rfl Tryd.func56 (by kernel_rfl) rfl #[.int .i64 (a2.size : Int)] rfl (by (try simp only [List.map_toArray,List.map_cons,List.map_nil]);first | done | rfl|(simp only [List.length_drop,List.length_take];rfl)) ?_;(with_reducible refine (spec_l00Digits.calls k (a2.size : Int) t167 _ A22.out).mono ?_);rintro e w27 ⟨rfl,hb⟩;refine ⟨_,rfl,?_⟩;have n0_:=aMk (below_step (by repeat first|exact HB.out|apply bwA|apply bwN|apply bw1) hb);clear HB;have HB:=n0_;clear n0_;(try clear hb);(try clear hb2);(try clear hk);(try clear hi)))
             go_ret
             exact ⟨by first | rfl|(simp [errW_none,errW_some] <;> rfl)|(simp [*,errW_none,errW_some] <;> rfl),by repeat (first|(with_reducible first|exact HB.out|apply bwA|apply bwN|apply bw1)|exact HB.out)⟩
            ·rw [if_neg c25] at H
             exact absurd H (by simp)
           ·rw [if_neg c24] at H
            exact absurd H (by simp)
          ·rw [if_neg c23] at H
           exact absurd H (by simp)
         ·rw [if_neg c21] at H
          exact absurd H (by simp)
        ·rw [if_neg c20] at H
         exact absurd H (by simp)
       ·rw [if_neg c19] at H
        exact absurd H (by simp)
      ·rw [if_neg c18] at H
       exact absurd H (by simp)
    ·rw [if_neg c9] at H
     exact absurd H (by simp)
   ·rw [if_neg c8] at H
    exact absurd H (by simp)
  ·rw [if_neg c6] at H
   exact absurd H (by simp)
 ·rw [if_neg c5] at H
  exact absurd H (by simp)
end
section
/-! ### spec_PageText: function 12 -/
def spec_PageText.j0 : Nat → Int → ByteArray → ByteArray → Bool → Option (ByteArray × Int)
 | 0,_,_,_,_ => none
 | k + 1,x0,x1,x2,x15 => if x15 = true then (some ((⟨#[]⟩ : ByteArray),2)) else ((spec_StatusWord.f x0).bind fun t168 => (if t168.toList = ([] : List UInt8) then (some ((⟨#[]⟩ : ByteArray),4)) else (if x1.toList = ([] : List UInt8) then (if (x2.size : Int) > 100 then (some ((⟨#[]⟩ : ByteArray),4)) else ((spec_l11Page.f k x0 x1 x2).bind fun t169 => (some (t169,0)))) else ((spec_l11Path.f k x1).bind fun t170 => (if t170 = true then (if (x2.size : Int) > 100 then (some ((⟨#[]⟩ : ByteArray),4)) else ((spec_l11Page.f k x0 x1 x2).bind fun t171 => (some (t171,0)))) else (some ((⟨#[]⟩ : ByteArray),4)))))))
def spec_PageText.f (k : Nat) (a0 : Int) (a1 : ByteArray) (a2 : ByteArray) : Option (ByteArray × Int):=if (a1.size : Int) > 65536 then (spec_PageText.j0 k a0 a1 a2 true) else (spec_PageText.j0 k a0 a1 a2 (decide ((a2.size : Int) > 65536)))
theorem spec_PageText.mono_l : ∀ k,(∀ y0 y1 y2 y3,LeO (spec_PageText.j0 k y0 y1 y2 y3) (spec_PageText.j0 (k + 1) y0 y1 y2 y3))
 | 0 => fun _ _ _ _ r h => by simp [spec_PageText.j0] at h
 | k + 1 => by
  have ih0:=spec_PageText.mono_l k
  ·intro y0 y1 y2 y3
   unfold spec_PageText.j0
   repeat' first
   | (with_reducible exact ih0 _ _ _ _)
   | (with_reducible exact spec_l11Page.mono ..)
   | (with_reducible exact spec_l11Path.mono ..)
   | (with_reducible exact LeO.refl _)
   | (with_reducible exact LeO.none _)
   | (with_reducible refine LeO.ite ?_ ?_)
   | (with_reducible refine LeO.bind ?_ (fun _ => ?_))
   | exact ih0 _ _ _ _
   | exact spec_l11Page.mono ..
   | exact spec_l11Path.mono ..
   | exact LeO.none _
   | refine LeO.ite ?_ ?_
   | refine LeO.bind ?_ (fun _ => ?_)
theorem spec_PageText.mono : ∀ a0 a1 a2 k,LeO (spec_PageText.f k a0 a1 a2) (spec_PageText.f (k + 1) a0 a1 a2):=by
 intro a0 a1 a2 k
 have ih0:=spec_PageText.mono_l k
 unfold spec_PageText.f
 repeat' first
   | (with_reducible exact ih0 _ _ _ _)
   | (with_reducible exact spec_l11Page.mono ..)
   | (with_reducible exact spec_l11Path.mono ..)
   | (with_reducible exact LeO.refl _)
   | (with_reducible exact LeO.none _)
   | (with_reducible refine LeO.ite ?_ ?_)
   | (with_reducible refine LeO.bind ?_ (fun _ => ?_))
   | exact ih0 _ _ _ _
   | exact spec_l11Page.mono ..
   | exact spec_l11Path.mono ..
   | exact LeO.none _
   | refine LeO.ite ?_ ?_
   | refine LeO.bind ?_ (fun _ => ?_)
set_option maxHeartbeats 8000000 in
set_option maxRecDepth 100000 in
theorem spec_PageText.calls (k : Nat) (a0 : Int) (a1 : ByteArray) (a2 : ByteArray) (r1 : ByteArray) (r2 : Int) (w : World) (h : spec_PageText.f k a0 a1 a2 = some (r1,r2)) :
  Calls Tryd.prog 12 #[.int .i64 a0,.string a1,.string a2] w fun e w' => e = .returned (.tuple #[.string r1,.int .i64 r2]) ∧ Below w.heap.size w w':=by
 have HB:=aMk (Below.refl w.heap.size w)
 have H : (if (a1.size : Int) > 65536 then (spec_PageText.j0 k a0 a1 a2 true) else (spec_PageText.j0 k a0 a1 a2 (decide ((a2.size : Int) > 65536)))) = some (r1,r2):=h
 clear h
 have HC4:=aMk H
 clear H
 go_enter Tryd.func12,Tryd.ntmps12
 go_upto_region 1 with (fail)
 go_cut [15] (fun v15 wc => ∃ (kq : Nat) (x15_3 : Bool),v15 = .bool x15_3 ∧ Aside0 (spec_PageText.j0 kq a0 a1 a2 x15_3 = some (r1,r2)) ∧ Aside0 (kq ≤ k) ∧ Aside0 (Below w.heap.size w wc))
 case first =>
  have H:=HC4.out
  clear HC4
  by_cases c5 : (a1.size : Int) > 65536
  ·rw [if_pos c5] at H
   have c5b0 : decide (65536 < (a1.size : Int)) = true:=decide_eq_true c5
   have c5b1 : decide (65536 < a1.size) = true:=decide_eq_true (by omega)
   clear c5
   (first|rw [c5b0]|(simp only [i64_w,i32_w];rw [c5b0]) | skip)
   have H':=aMk H
   clear H
   go_wp2
   go_meet
   case rel => exact ⟨_,(true),(by first | rfl|(simp;done)|(simp [*];done)|(simp [ne_nil_b];done)|(simp [ne_nil_b, *];done)),H',⟨by first | omega|exact Nat.le_refl _⟩,⟨by repeat (first|(with_reducible first|exact HB.out|apply bwA|apply bwN|apply bw1)|exact HB.out)⟩⟩
  ·rw [if_neg c5] at H
   have c5b0 : decide (65536 < (a1.size : Int)) = false:=decide_eq_false c5
   have c5b1 : decide (65536 < a1.size) = false:=decide_eq_false (by omega)
   clear c5
   (first|rw [c5b0]|(simp only [i64_w,i32_w];rw [c5b0]) | skip)
   have H':=aMk H
   clear H
   go_wp2
   go_meet
   case rel => exact ⟨_,(decide ((a2.size : Int) > 65536)),(by first | rfl|(simp;done)|(simp [*];done)|(simp [ne_nil_b];done)|(simp [ne_nil_b, *];done)),H',⟨by first | omega|exact Nat.le_refl _⟩,⟨by repeat (first|(with_reducible first|exact HB.out|apply bwA|apply bwN|apply bw1)|exact HB.out)⟩⟩
 case rest =>
  clear HC4
  try clear c1
  try clear p2
  try clear c5
  try clear c5b0
  try clear c5b1
  obtain ⟨kq,x15_3,rfl,HA,HJ3,HB⟩:=hcut
  cases kq with
  | zero => exact absurd HA.out (by simp [spec_PageText.j0])
  | succ kj3 =>
   have H:=HA.out
   clear HA
   simp only [spec_PageText.j0] at H
   by_cases c6 : x15_3 = true
   ·subst c6
    have H1 : (some ((⟨#[]⟩ : ByteArray),2)) = some (r1,r2):=by rw [if_pos rfl] at H;exact H
    clear H
    have H:=H1
    clear H1
    simp only [Option.some.injEq,Prod.mk.injEq] at H
    obtain ⟨rfl,rfl⟩:=H
    go_wp2
    go_ret2
    exact ⟨by first | rfl|(simp [errW_none,errW_some] <;> rfl)|(simp [*,errW_none,errW_some] <;> rfl),by repeat (first|(with_reducible first|exact HB.out|apply bwA|apply bwN|apply bw1)|exact HB.out)⟩
   ·replace c6:=Bool.eq_false_iff.mpr c6
    subst c6
    have H1 : ((spec_StatusWord.f a0).bind fun t168 => (if t168.toList = ([] : List UInt8) then (some ((⟨#[]⟩ : ByteArray),4)) else (if a1.toList = ([] : List UInt8) then (if (a2.size : Int) > 100 then (some ((⟨#[]⟩ : ByteArray),4)) else ((spec_l11Page.f kj3 a0 a1 a2).bind fun t169 => (some (t169,0)))) else ((spec_l11Path.f kj3 a1).bind fun t170 => (if t170 = true then (if (a2.size : Int) > 100 then (some ((⟨#[]⟩ : ByteArray),4)) else ((spec_l11Page.f kj3 a0 a1 a2).bind fun t171 => (some (t171,0)))) else (some ((⟨#[]⟩ : ByteArray),4))))))) = some (r1,r2):=by rw [if_neg (show ¬ (false = true) by decide)] at H;exact H
    clear H
    have H:=H1
    clear H1
    replace H:=Option.bind_eq_some_iff.mp H
    obtain ⟨t168,A70,H⟩:=H
    replace H : (if t168.toList = ([] : List UInt8) then (some ((⟨#[]⟩ : ByteArray),4)) else (if a1.toList = ([] : List UInt8) then (if (a2.size : Int) > 100 then (some ((⟨#[]⟩ : ByteArray),4)) else ((spec_l11Page.f kj3 a0 a1 a2).bind fun t169 => (some (t169,0)))) else ((spec_l11Path.f kj3 a1).bind fun t170 => (if t170 = true then (if (a2.size : Int) > 100 then (some ((⟨#[]⟩ : ByteArray),4)) else ((spec_l11Page.f kj3 a0 a1 a2).bind fun t171 => (some (t171,0)))) else (some ((⟨#[]⟩ : ByteArray),4)))))) = some (r1,r2):=H
    have A7:=aMk A70
    clear A70
    by_cases c8 : t168.toList = ([] : List UInt8)
    ·rw [if_pos c8] at H
     have c8b0 : (t168.toList == ([] : List UInt8)) = true:=beq_iff_eq.mpr c8
     have c8b1 : (t168.toList != ([] : List UInt8)) = false:=bne_eq_false_iff_eq.mpr c8
     clear c8
     simp only [Option.some.injEq,Prod.mk.injEq] at H
     obtain ⟨rfl,rfl⟩:=H
     go_wp2_with (first|((with_reducible refine gate_callee (f:=28) rfl ?_);refine goesL_ (some 17) rfl rfl Tryd.func28 (by kernel_rfl) rfl #[.int .i64 a0] rfl (by (try simp only [List.map_toArray,List.map_cons,List.map_nil]);first | done | rfl|(simp only [List.length_drop,List.length_take];rfl)) ?_;(with_reducible refine (spec_StatusWord.calls a0 t168 _ A7.out).mono ?_);rintro e w' ⟨rfl,⟨nd,rfl⟩⟩;refine ⟨_,rfl,?_⟩))
     go_ret2
     exact ⟨by first | rfl|(simp [errW_none,errW_some] <;> rfl)|(simp [*,errW_none,errW_some] <;> rfl),by repeat (first|(with_reducible first|exact HB.out|apply bwA|apply bwN|apply bw1)|exact HB.out)⟩
    ·rw [if_neg c8] at H
     have c8b0 : (t168.toList == ([] : List UInt8)) = false:=beq_eq_false_iff_ne.mpr c8
     have c8b1 : (t168.toList != ([] : List UInt8)) = true:=bne_iff_ne.mpr c8
     by_cases c9 : a1.toList = ([] : List UInt8)
     ·rw [if_pos c9] at H
      have c9b0 : (a1.toList == ([] : List UInt8)) = true:=beq_iff_eq.mpr c9
      have c9b1 : (a1.toList != ([] : List UInt8)) = false:=bne_eq_false_iff_eq.mpr c9
      clear c9
      by_cases c10 : (a2.size : Int) > 100
      ·rw [if_pos c10] at H
       have c10b0 : decide (100 < (a2.size : Int)) = true:=decide_eq_true c10
       have c10b1 : decide (100 < a2.size) = true:=decide_eq_true (by omega)
       clear c10
       simp only [Option.some.injEq,Prod.mk.injEq] at H
       obtain ⟨rfl,rfl⟩:=H
       go_wp2_with (first|((with_reducible refine gate_callee (f:=28) rfl ?_);refine goesL_ (some 17) rfl rfl Tryd.func28 (by kernel_rfl) rfl #[.int .i64 a0] rfl (by (try simp only [List.map_toArray,List.map_cons,List.map_nil]);first | done | rfl|(simp only [List.length_drop,List.length_take];rfl)) ?_;(with_reducible refine (spec_StatusWord.calls a0 t168 _ A7.out).mono ?_);rintro e w' ⟨rfl,⟨nd,rfl⟩⟩;refine ⟨_,rfl,?_⟩))
       go_ret2
       exact ⟨by first | rfl|(simp [errW_none,errW_some] <;> rfl)|(simp [*,errW_none,errW_some] <;> rfl),by repeat (first|(with_reducible first|exact HB.out|apply bwA|apply bwN|apply bw1)|exact HB.out)⟩
      ·rw [if_neg c10] at H
       have c10b0 : decide (100 < (a2.size : Int)) = false:=decide_eq_false c10
       have c10b1 : decide (100 < a2.size) = false:=decide_eq_false (by omega)
       clear c10
       replace H:=Option.bind_eq_some_iff.mp H
       obtain ⟨t169,A110,H⟩:=H
       replace H : (some (t169,0)) = some (r1,r2):=H
       have A11:=aMk A110
       clear A110
       simp only [Option.some.injEq,Prod.mk.injEq] at H
       obtain ⟨rfl,rfl⟩:=H
       go_wp2_with (first|((with_reducible refine gate_callee (f:=28) rfl ?_);refine goesL_ (some 17) rfl rfl Tryd.func28 (by kernel_rfl) rfl #[.int .i64 a0] rfl (by (try simp only [List.map_toArray,List.map_cons,List.map_nil]);first | done | rfl|(simp only [List.length_drop,List.length_take];rfl)) ?_;(with_reducible refine (spec_StatusWord.calls a0 t168 _ A7.out).mono ?_);rintro e w' ⟨rfl,⟨nd,rfl⟩⟩;refine ⟨_,rfl,?_⟩)|((with_reducible refine gate_callee (f:=37) rfl ?_);refine goesL_ (some 36) rfl rfl Tryd.func37 (by kernel_rfl) rfl #[.int .i64 a0,.string a1,.string a2] rfl (by (try simp only [List.map_toArray,List.map_cons,List.map_nil]);first | done | rfl|(simp only [List.length_drop,List.length_take];rfl)) ?_;(with_reducible refine (spec_l11Page.calls kj3 a0 a1 a2 t169 _ A11.out).mono ?_);rintro e w12 ⟨rfl,hb⟩;refine ⟨_,rfl,?_⟩;have n0_:=aMk (below_step (by repeat first|exact HB.out|apply bwA|apply bwN|apply bw1) hb);clear HB;have HB:=n0_;clear n0_;(try clear hb);(try clear hb2);(try clear hk);(try clear hi)))
       go_ret2
       exact ⟨by first | rfl|(simp [errW_none,errW_some] <;> rfl)|(simp [*,errW_none,errW_some] <;> rfl),by repeat (first|(with_reducible first|exact HB.out|apply bwA|apply bwN|apply bw1)|exact HB.out)⟩
     ·rw [if_neg c9] at H
      have c9b0 : (a1.toList == ([] : List UInt8)) = false:=beq_eq_false_iff_ne.mpr c9
      have c9b1 : (a1.toList != ([] : List UInt8)) = true:=bne_iff_ne.mpr c9
      replace H:=Option.bind_eq_some_iff.mp H
      obtain ⟨t170,A130,H⟩:=H
      replace H : (if t170 = true then (if (a2.size : Int) > 100 then (some ((⟨#[]⟩ : ByteArray),4)) else ((spec_l11Page.f kj3 a0 a1 a2).bind fun t171 => (some (t171,0)))) else (some ((⟨#[]⟩ : ByteArray),4))) = some (r1,r2):=H
      have A13:=aMk A130
      clear A130
      by_cases c14 : t170 = true
      ·subst c14
       have H1 : (if (a2.size : Int) > 100 then (some ((⟨#[]⟩ : ByteArray),4)) else ((spec_l11Page.f kj3 a0 a1 a2).bind fun t171 => (some (t171,0)))) = some (r1,r2):=by rw [if_pos rfl] at H;exact H
       clear H
       have H:=H1
       clear H1
       by_cases c15 : (a2.size : Int) > 100
       ·rw [if_pos c15] at H
        have c15b0 : decide (100 < (a2.size : Int)) = true:=decide_eq_true c15
        have c15b1 : decide (100 < a2.size) = true:=decide_eq_true (by omega)
        clear c15
        simp only [Option.some.injEq,Prod.mk.injEq] at H
        obtain ⟨rfl,rfl⟩:=H
        go_wp2_with (first|((with_reducible refine gate_callee (f:=28) rfl ?_);refine goesL_ (some 17) rfl rfl Tryd.func28 (by kernel_rfl) rfl #[.int .i64 a0] rfl (by (try simp only [List.map_toArray,List.map_cons,List.map_nil]);first | done | rfl|(simp only [List.length_drop,List.length_take];rfl)) ?_;(with_reducible refine (spec_StatusWord.calls a0 t168 _ A7.out).mono ?_);rintro e w' ⟨rfl,⟨nd,rfl⟩⟩;refine ⟨_,rfl,?_⟩)|(go_at_call 33;(with_reducible refine (spec_l11Path.calls kj3 a1 true _ A13.out).mono ?_);rintro e w' ⟨rfl,⟨nd,rfl⟩⟩))
        go_ret2
        exact ⟨by first | rfl|(simp [errW_none,errW_some] <;> rfl)|(simp [*,errW_none,errW_some] <;> rfl),by repeat (first|(with_reducible first|exact HB.out|apply bwA|apply bwN|apply bw1)|exact HB.out)⟩
       ·rw [if_neg c15] at H
        have c15b0 : decide (100 < (a2.size : Int)) = false:=decide_eq_false c15
        have c15b1 : decide (100 < a2.size) = false:=decide_eq_false (by omega)
        clear c15
        replace H:=Option.bind_eq_some_iff.mp H
        obtain ⟨t171,A160,H⟩:=H
        replace H : (some (t171,0)) = some (r1,r2):=H
        have A16:=aMk A160
        clear A160
        simp only [Option.some.injEq,Prod.mk.injEq] at H
        obtain ⟨rfl,rfl⟩:=H
        go_wp2_with (first|((with_reducible refine gate_callee (f:=28) rfl ?_);refine goesL_ (some 17) rfl rfl Tryd.func28 (by kernel_rfl) rfl #[.int .i64 a0] rfl (by (try simp only [List.map_toArray,List.map_cons,List.map_nil]);first | done | rfl|(simp only [List.length_drop,List.length_take];rfl)) ?_;(with_reducible refine (spec_StatusWord.calls a0 t168 _ A7.out).mono ?_);rintro e w' ⟨rfl,⟨nd,rfl⟩⟩;refine ⟨_,rfl,?_⟩)|(go_at_call 33;(with_reducible refine (spec_l11Path.calls kj3 a1 true _ A13.out).mono ?_);rintro e w' ⟨rfl,⟨nd,rfl⟩⟩)|((with_reducible refine gate_callee (f:=37) rfl ?_);refine goesL_ (some 36) rfl rfl Tryd.func37 (by kernel_rfl) rfl #[.int .i64 a0,.string a1,.string a2] rfl (by (try simp only [List.map_toArray,List.map_cons,List.map_nil]);first | done | rfl|(simp only [List.length_drop,List.length_take];rfl)) ?_;(with_reducible refine (spec_l11Page.calls kj3 a0 a1 a2 t171 _ A16.out).mono ?_);rintro e w17 ⟨rfl,hb⟩;refine ⟨_,rfl,?_⟩;have n0_:=aMk (below_step (by repeat first|exact HB.out|apply bwA|apply bwN|apply bw1) hb);clear HB;have HB:=n0_;clear n0_;(try clear hb);(try clear hb2);(try clear hk);(try clear hi)))
        go_ret2
        exact ⟨by first | rfl|(simp [errW_none,errW_some] <;> rfl)|(simp [*,errW_none,errW_some] <;> rfl),by repeat (first|(with_reducible first|exact HB.out|apply bwA|apply bwN|apply bw1)|exact HB.out)⟩
      ·replace c14:=Bool.eq_false_iff.mpr c14
       subst c14
       have H1 : (some ((⟨#[]⟩ : ByteArray),4)) = some (r1,r2):=by rw [if_neg (show ¬ (false = true) by decide)] at H;exact H
       clear H
       have H:=H1
       clear H1
       simp only [Option.some.injEq,Prod.mk.injEq] at H
       obtain ⟨rfl,rfl⟩:=H
       go_wp2_with (first|((with_reducible refine gate_callee (f:=28) rfl ?_);refine goesL_ (some 17) rfl rfl Tryd.func28 (by kernel_rfl) rfl #[.int .i64 a0] rfl (by (try simp only [List.map_toArray,List.map_cons,List.map_nil]);first | done | rfl|(simp only [List.length_drop,List.length_take];rfl)) ?_;(with_reducible refine (spec_StatusWord.calls a0 t168 _ A7.out).mono ?_);rintro e w' ⟨rfl,⟨nd,rfl⟩⟩;refine ⟨_,rfl,?_⟩)|(go_at_call 33;(with_reducible refine (spec_l11Path.calls kj3 a1 false _ A13.out).mono ?_);rintro e w' ⟨rfl,⟨nd,rfl⟩⟩))
       go_ret2
       exact ⟨by first | rfl|(simp [errW_none,errW_some] <;> rfl)|(simp [*,errW_none,errW_some] <;> rfl),by repeat (first|(with_reducible first|exact HB.out|apply bwA|apply bwN|apply bw1)|exact HB.out)⟩
end
section
/-! ### impl_StatusWord: function 27 -/
def impl_StatusWord.f (a0 : Int) : Option (ByteArray):=if a0 = 200 then (some (⟨#[79,75]⟩ : ByteArray)) else (if a0 = 302 then (some (⟨#[70,111,117,110,100]⟩ : ByteArray)) else (if a0 = 400 then (some (⟨#[66,97,100,32,82,101,113,117,101,115,116]⟩ : ByteArray)) else (if a0 = 403 then (some (⟨#[70,111,114,98,105,100,100,101,110]⟩ : ByteArray)) else (if a0 = 404 then (some (⟨#[78,111,116,32,70,111,117,110,100]⟩ : ByteArray)) else (if a0 = 429 then (some (⟨#[84,111,111,32,77,97,110,121,32,82,101,113,117,101,115,116,115]⟩ : ByteArray)) else (if a0 = 503 then (some (⟨#[83,101,114,118,105,99,101,32,85,110,97,118,97,105,108,97,98,108,101]⟩ : ByteArray)) else (some (⟨#[]⟩ : ByteArray))))))))
set_option maxHeartbeats 8000000 in
set_option maxRecDepth 100000 in
theorem impl_StatusWord.calls (a0 : Int) (r : ByteArray) (w : World) (h : impl_StatusWord.f a0 = some r) :
  Calls Tryd.prog 27 #[.int .i64 a0] w fun e w' => e = .returned (.string r) ∧ Drawn0 w w':=by
 have H : (if a0 = 200 then (some (⟨#[79,75]⟩ : ByteArray)) else (if a0 = 302 then (some (⟨#[70,111,117,110,100]⟩ : ByteArray)) else (if a0 = 400 then (some (⟨#[66,97,100,32,82,101,113,117,101,115,116]⟩ : ByteArray)) else (if a0 = 403 then (some (⟨#[70,111,114,98,105,100,100,101,110]⟩ : ByteArray)) else (if a0 = 404 then (some (⟨#[78,111,116,32,70,111,117,110,100]⟩ : ByteArray)) else (if a0 = 429 then (some (⟨#[84,111,111,32,77,97,110,121,32,82,101,113,117,101,115,116,115]⟩ : ByteArray)) else (if a0 = 503 then (some (⟨#[83,101,114,118,105,99,101,32,85,110,97,118,97,105,108,97,98,108,101]⟩ : ByteArray)) else (some (⟨#[]⟩ : ByteArray))))))))) = some r:=h
 clear h
 by_cases c2 : a0 = 200
 ·rw [if_pos c2] at H
  have c2b0 : (a0 == 200) = true:=beq_iff_eq.mpr c2
  have c2b1 : (a0 != 200) = false:=bne_eq_false_iff_eq.mpr c2
  clear c2
  obtain rfl:=Option.some.inj H
  go_enter Tryd.func27,Tryd.ntmps27
  go_wp2
  go_ret
  exact ⟨by first | rfl|(simp;done)|(simp [*];done)|(simp [ne_nil_b];done)|(simp [ne_nil_b, *];done),by repeat (first|exact Drawn0.refl _|apply Drawn0.step)⟩
 ·rw [if_neg c2] at H
  have c2b0 : (a0 == 200) = false:=beq_eq_false_iff_ne.mpr c2
  have c2b1 : (a0 != 200) = true:=bne_iff_ne.mpr c2
  by_cases c3 : a0 = 302
  ·rw [if_pos c3] at H
   have c3b0 : (a0 == 302) = true:=beq_iff_eq.mpr c3
   have c3b1 : (a0 != 302) = false:=bne_eq_false_iff_eq.mpr c3
   clear c3
   obtain rfl:=Option.some.inj H
   go_enter Tryd.func27,Tryd.ntmps27
   go_wp2
   go_ret
   exact ⟨by first | rfl|(simp;done)|(simp [*];done)|(simp [ne_nil_b];done)|(simp [ne_nil_b, *];done),by repeat (first|exact Drawn0.refl _|apply Drawn0.step)⟩
  ·rw [if_neg c3] at H
   have c3b0 : (a0 == 302) = false:=beq_eq_false_iff_ne.mpr c3
   have c3b1 : (a0 != 302) = true:=bne_iff_ne.mpr c3
   by_cases c4 : a0 = 400
   ·rw [if_pos c4] at H
    have c4b0 : (a0 == 400) = true:=beq_iff_eq.mpr c4
    have c4b1 : (a0 != 400) = false:=bne_eq_false_iff_eq.mpr c4
    clear c4
    obtain rfl:=Option.some.inj H
    go_enter Tryd.func27,Tryd.ntmps27
    go_wp2
    go_ret
    exact ⟨by first | rfl|(simp;done)|(simp [*];done)|(simp [ne_nil_b];done)|(simp [ne_nil_b, *];done),by repeat (first|exact Drawn0.refl _|apply Drawn0.step)⟩
   ·rw [if_neg c4] at H
    have c4b0 : (a0 == 400) = false:=beq_eq_false_iff_ne.mpr c4
    have c4b1 : (a0 != 400) = true:=bne_iff_ne.mpr c4
    by_cases c5 : a0 = 403
    ·rw [if_pos c5] at H
     have c5b0 : (a0 == 403) = true:=beq_iff_eq.mpr c5
     have c5b1 : (a0 != 403) = false:=bne_eq_false_iff_eq.mpr c5
     clear c5
     obtain rfl:=Option.some.inj H
     go_enter Tryd.func27,Tryd.ntmps27
     go_wp2
     go_ret
     exact ⟨by first | rfl|(simp;done)|(simp [*];done)|(simp [ne_nil_b];done)|(simp [ne_nil_b, *];done),by repeat (first|exact Drawn0.refl _|apply Drawn0.step)⟩
    ·rw [if_neg c5] at H
     have c5b0 : (a0 == 403) = false:=beq_eq_false_iff_ne.mpr c5
     have c5b1 : (a0 != 403) = true:=bne_iff_ne.mpr c5
     by_cases c6 : a0 = 404
     ·rw [if_pos c6] at H
      have c6b0 : (a0 == 404) = true:=beq_iff_eq.mpr c6
      have c6b1 : (a0 != 404) = false:=bne_eq_false_iff_eq.mpr c6
      clear c6
      obtain rfl:=Option.some.inj H
      go_enter Tryd.func27,Tryd.ntmps27
      go_wp2
      go_ret
      exact ⟨by first | rfl|(simp;done)|(simp [*];done)|(simp [ne_nil_b];done)|(simp [ne_nil_b, *];done),by repeat (first|exact Drawn0.refl _|apply Drawn0.step)⟩
     ·rw [if_neg c6] at H
      have c6b0 : (a0 == 404) = false:=beq_eq_false_iff_ne.mpr c6
      have c6b1 : (a0 != 404) = true:=bne_iff_ne.mpr c6
      by_cases c7 : a0 = 429
      ·rw [if_pos c7] at H
       have c7b0 : (a0 == 429) = true:=beq_iff_eq.mpr c7
       have c7b1 : (a0 != 429) = false:=bne_eq_false_iff_eq.mpr c7
       clear c7
       obtain rfl:=Option.some.inj H
       go_enter Tryd.func27,Tryd.ntmps27
       go_wp2
       go_ret
       exact ⟨by first | rfl|(simp;done)|(simp [*];done)|(simp [ne_nil_b];done)|(simp [ne_nil_b, *];done),by repeat (first|exact Drawn0.refl _|apply Drawn0.step)⟩
      ·rw [if_neg c7] at H
       have c7b0 : (a0 == 429) = false:=beq_eq_false_iff_ne.mpr c7
       have c7b1 : (a0 != 429) = true:=bne_iff_ne.mpr c7
       by_cases c8 : a0 = 503
       ·rw [if_pos c8] at H
        have c8b0 : (a0 == 503) = true:=beq_iff_eq.mpr c8
        have c8b1 : (a0 != 503) = false:=bne_eq_false_iff_eq.mpr c8
        clear c8
        obtain rfl:=Option.some.inj H
        go_enter Tryd.func27,Tryd.ntmps27
        go_wp2
        go_ret
        exact ⟨by first | rfl|(simp;done)|(simp [*];done)|(simp [ne_nil_b];done)|(simp [ne_nil_b, *];done),by repeat (first|exact Drawn0.refl _|apply Drawn0.step)⟩
       ·rw [if_neg c8] at H
        have c8b0 : (a0 == 503) = false:=beq_eq_false_iff_ne.mpr c8
        have c8b1 : (a0 != 503) = true:=bne_iff_ne.mpr c8
        obtain rfl:=Option.some.inj H
        go_enter Tryd.func27,Tryd.ntmps27
        go_wp2
        go_ret
        exact ⟨by first | rfl|(simp;done)|(simp [*];done)|(simp [ne_nil_b];done)|(simp [ne_nil_b, *];done),by repeat (first|exact Drawn0.refl _|apply Drawn0.step)⟩
end
section
/-! ### impl_within: function 59 -/
def impl_within.f (a0 : Int) (a1 : Int) (a2 : Int) : Option (Bool):=if a0 ≥ a1 then (some (decide (a0 ≤ a2))) else (some false)
set_option maxHeartbeats 8000000 in
set_option maxRecDepth 100000 in
theorem impl_within.calls (a0 : Int) (a1 : Int) (a2 : Int) (r : Bool) (w : World) (h : impl_within.f a0 a1 a2 = some r) :
  Calls Tryd.prog 59 #[.int .i64 a0,.int .i64 a1,.int .i64 a2] w fun e w' => e = .returned (.bool r) ∧ Drawn0 w w':=by
 have H : (if a0 ≥ a1 then (some (decide (a0 ≤ a2))) else (some false)) = some r:=h
 clear h
 by_cases c4 : a0 ≥ a1
 ·rw [if_pos c4] at H
  have c4b0 : decide (a1 ≤ a0) = true:=decide_eq_true c4
  clear c4
  obtain rfl:=Option.some.inj H
  go_enter Tryd.func59,Tryd.ntmps59
  go_wp2
  go_ret
  exact ⟨by first | rfl|(simp;done)|(simp [*];done)|(simp [ne_nil_b];done)|(simp [ne_nil_b, *];done),by repeat (first|exact Drawn0.refl _|apply Drawn0.step)⟩
 ·rw [if_neg c4] at H
  have c4b0 : decide (a1 ≤ a0) = false:=decide_eq_false c4
  clear c4
  obtain rfl:=Option.some.inj H
  go_enter Tryd.func59,Tryd.ntmps59
  go_wp2
  go_ret
  exact ⟨by first | rfl|(simp;done)|(simp [*];done)|(simp [ne_nil_b];done)|(simp [ne_nil_b, *];done),by repeat (first|exact Drawn0.refl _|apply Drawn0.step)⟩
end
section
/-! ### impl_isLetter: function 60 -/
def impl_isLetter.f (a0 : Int) : Option (Bool):=if a0 ≥ 97 then (if a0 ≤ 122 then (some true) else (if a0 ≥ 65 then (if a0 ≤ 90 then (some true) else (some (a0 == 95))) else (some (a0 == 95)))) else (if a0 ≥ 65 then (if a0 ≤ 90 then (some true) else (some (a0 == 95))) else (some (a0 == 95)))
set_option maxHeartbeats 8000000 in
set_option maxRecDepth 100000 in
theorem impl_isLetter.calls (a0 : Int) (r : Bool) (w : World) (h : impl_isLetter.f a0 = some r) :
  Calls Tryd.prog 60 #[.int .u8 a0] w fun e w' => e = .returned (.bool r) ∧ Drawn0 w w':=by
 have H : (if a0 ≥ 97 then (if a0 ≤ 122 then (some true) else (if a0 ≥ 65 then (if a0 ≤ 90 then (some true) else (some (a0 == 95))) else (some (a0 == 95)))) else (if a0 ≥ 65 then (if a0 ≤ 90 then (some true) else (some (a0 == 95))) else (some (a0 == 95)))) = some r:=h
 clear h
 by_cases c2 : a0 ≥ 97
 ·rw [if_pos c2] at H
  have c2b0 : decide (97 ≤ a0) = true:=decide_eq_true c2
  clear c2
  by_cases c3 : a0 ≤ 122
  ·rw [if_pos c3] at H
   have c3b0 : decide (a0 ≤ 122) = true:=decide_eq_true c3
   clear c3
   obtain rfl:=Option.some.inj H
   go_enter Tryd.func60,Tryd.ntmps60
   go_wp2
   go_ret
   exact ⟨by first | rfl|(simp;done)|(simp [*];done)|(simp [ne_nil_b];done)|(simp [ne_nil_b, *];done),by repeat (first|exact Drawn0.refl _|apply Drawn0.step)⟩
  ·rw [if_neg c3] at H
   have c3b0 : decide (a0 ≤ 122) = false:=decide_eq_false c3
   clear c3
   by_cases c4 : a0 ≥ 65
   ·rw [if_pos c4] at H
    have c4b0 : decide (65 ≤ a0) = true:=decide_eq_true c4
    clear c4
    by_cases c5 : a0 ≤ 90
    ·rw [if_pos c5] at H
     have c5b0 : decide (a0 ≤ 90) = true:=decide_eq_true c5
     clear c5
     obtain rfl:=Option.some.inj H
     go_enter Tryd.func60,Tryd.ntmps60
     go_wp2
     go_ret
     exact ⟨by first | rfl|(simp;done)|(simp [*];done)|(simp [ne_nil_b];done)|(simp [ne_nil_b, *];done),by repeat (first|exact Drawn0.refl _|apply Drawn0.step)⟩
    ·rw [if_neg c5] at H
     have c5b0 : decide (a0 ≤ 90) = false:=decide_eq_false c5
     clear c5
     obtain rfl:=Option.some.inj H
     go_enter Tryd.func60,Tryd.ntmps60
     go_wp2
     go_ret
     exact ⟨by first | rfl|(simp;done)|(simp [*];done)|(simp [ne_nil_b];done)|(simp [ne_nil_b, *];done),by repeat (first|exact Drawn0.refl _|apply Drawn0.step)⟩
   ·rw [if_neg c4] at H
    have c4b0 : decide (65 ≤ a0) = false:=decide_eq_false c4
    clear c4
    obtain rfl:=Option.some.inj H
    go_enter Tryd.func60,Tryd.ntmps60
    go_wp2
    go_ret
    exact ⟨by first | rfl|(simp;done)|(simp [*];done)|(simp [ne_nil_b];done)|(simp [ne_nil_b, *];done),by repeat (first|exact Drawn0.refl _|apply Drawn0.step)⟩
 ·rw [if_neg c2] at H
  have c2b0 : decide (97 ≤ a0) = false:=decide_eq_false c2
  clear c2
  by_cases c6 : a0 ≥ 65
  ·rw [if_pos c6] at H
   have c6b0 : decide (65 ≤ a0) = true:=decide_eq_true c6
   clear c6
   by_cases c7 : a0 ≤ 90
   ·rw [if_pos c7] at H
    have c7b0 : decide (a0 ≤ 90) = true:=decide_eq_true c7
    clear c7
    obtain rfl:=Option.some.inj H
    go_enter Tryd.func60,Tryd.ntmps60
    go_wp2
    go_ret
    exact ⟨by first | rfl|(simp;done)|(simp [*];done)|(simp [ne_nil_b];done)|(simp [ne_nil_b, *];done),by repeat (first|exact Drawn0.refl _|apply Drawn0.step)⟩
   ·rw [if_neg c7] at H
    have c7b0 : decide (a0 ≤ 90) = false:=decide_eq_false c7
    clear c7
    obtain rfl:=Option.some.inj H
    go_enter Tryd.func60,Tryd.ntmps60
    go_wp2
    go_ret
    exact ⟨by first | rfl|(simp;done)|(simp [*];done)|(simp [ne_nil_b];done)|(simp [ne_nil_b, *];done),by repeat (first|exact Drawn0.refl _|apply Drawn0.step)⟩
  ·rw [if_neg c6] at H
   have c6b0 : decide (65 ≤ a0) = false:=decide_eq_false c6
   clear c6
   obtain rfl:=Option.some.inj H
   go_enter Tryd.func60,Tryd.ntmps60
   go_wp2
   go_ret
   exact ⟨by first | rfl|(simp;done)|(simp [*];done)|(simp [ne_nil_b];done)|(simp [ne_nil_b, *];done),by repeat (first|exact Drawn0.refl _|apply Drawn0.step)⟩
end
section
/-! ### impl_isDigit: function 61 -/
def impl_isDigit.f (a0 : Int) : Option (Bool):=if a0 ≥ 48 then (some (decide (a0 ≤ 57))) else (some false)
set_option maxHeartbeats 8000000 in
set_option maxRecDepth 100000 in
theorem impl_isDigit.calls (a0 : Int) (r : Bool) (w : World) (h : impl_isDigit.f a0 = some r) :
  Calls Tryd.prog 61 #[.int .u8 a0] w fun e w' => e = .returned (.bool r) ∧ Drawn0 w w':=by
 have H : (if a0 ≥ 48 then (some (decide (a0 ≤ 57))) else (some false)) = some r:=h
 clear h
 by_cases c2 : a0 ≥ 48
 ·rw [if_pos c2] at H
  have c2b0 : decide (48 ≤ a0) = true:=decide_eq_true c2
  clear c2
  obtain rfl:=Option.some.inj H
  go_enter Tryd.func61,Tryd.ntmps61
  go_wp2
  go_ret
  exact ⟨by first | rfl|(simp;done)|(simp [*];done)|(simp [ne_nil_b];done)|(simp [ne_nil_b, *];done),by repeat (first|exact Drawn0.refl _|apply Drawn0.step)⟩
 ·rw [if_neg c2] at H
  have c2b0 : decide (48 ≤ a0) = false:=decide_eq_false c2
  clear c2
  obtain rfl:=Option.some.inj H
  go_enter Tryd.func61,Tryd.ntmps61
  go_wp2
  go_ret
  exact ⟨by first | rfl|(simp;done)|(simp [*];done)|(simp [ne_nil_b];done)|(simp [ne_nil_b, *];done),by repeat (first|exact Drawn0.refl _|apply Drawn0.step)⟩
end
section
/-! ### strings_IndexByte: function 62 -/
-- USES 83 97
-- IMPORT Derived.Lib.Bytealg
def strings_IndexByte.f (a0 : ByteArray) (a1 : Int) : Option Int:=some (Lib.indexByte a0.data.toList a1.toNat.toUInt8)
set_option maxHeartbeats 1000000 in
set_option maxRecDepth 100000 in
theorem slite_IndexByte (s : ByteArray) (c : Int) (w : World) :
  Calls Tryd.prog 83 #[.string s,.int .u8 c] w fun e w' => e = .returned (.int .i64 (Lib.indexByte s.data.toList c.toNat.toUInt8)) ∧ w' = w:=by
 go_enter Tryd.func83,Tryd.ntmps83
 go_wp2
 rw [run_callFunc_extern Tryd.func97 (by kernel_rfl) (by kernel_rfl) (by kernel_rfl) (e:=Extern.BytealgIndexByte.indexByte) (by kernel_rfl),Lib.run_indexByteString]
 simp only [Result.andThen]
 rw [Oper.upon_value]
 go_wp2
 go_ret
 exact ⟨rfl,rfl⟩
set_option maxHeartbeats 1000000 in
set_option maxRecDepth 100000 in
theorem strings_IndexByte.calls (a0 : ByteArray) (a1 : Int) (r : Int) (w : World) (h : strings_IndexByte.f a0 a1 = some r) :
  Calls Tryd.prog 62 #[.string a0,.int .u8 a1] w fun e w' => e = .returned (.int .i64 r) ∧ Drawn0 w w':=by
 obtain rfl : Lib.indexByte a0.data.toList a1.toNat.toUInt8 = r:=Option.some.inj h
 go_enter Tryd.func62,Tryd.ntmps62
 go_wp2_with (go_at_call 83;refine (slite_IndexByte _ _ _).mono ?_;rintro e w' ⟨rfl,rfl⟩)
 go_ret
 exact ⟨rfl,⟨0,rfl⟩⟩
end
section
/-! ### impl_pathOK: function 38 -/
mutual
def impl_pathOK.j0 : Nat → ByteArray → Bool → Option (Bool)
 | 0,_,_ => none
 | k + 1,x0,x12 => if x12 = true then (some false) else (impl_pathOK.l0 k x0 (x0.size : Int) 0)
def impl_pathOK.l0 : Nat → ByteArray → Int → Int → Option (Bool)
 | 0,_,_,_ => none
 | k + 1,x0,x14,x15 => if x15 < x14 then (if 0 ≤ x15 then (if x15 < (x0.size : Int) then ((impl_isLetter.f (bt x0 x15)).bind fun t122 => (if t122 = true then (impl_pathOK.l0 k x0 x14 (wrap64 (x15 + 1))) else ((impl_isDigit.f (bt x0 x15)).bind fun t123 => (if t123 = true then (impl_pathOK.l0 k x0 x14 (wrap64 (x15 + 1))) else ((strings_IndexByte.f (⟨#[47,46,45,63,61,95]⟩ : ByteArray) (bt x0 x15)).bind fun t124 => (if t124 < 0 then (some false) else (impl_pathOK.l0 k x0 x14 (wrap64 (x15 + 1))))))))) else (none)) else (none)) else (some true)
end
def impl_pathOK.f (k : Nat) (a0 : ByteArray) : Option (Bool):=(impl_within.f (a0.size : Int) 1 40).bind fun t121 => (if t121 = true then (if 0 < (a0.size : Int) then (impl_pathOK.j0 k a0 ((bt a0 0) != 47)) else (none)) else (impl_pathOK.j0 k a0 true))
theorem impl_pathOK.mono_l : ∀ k,(∀ y0 y1,LeO (impl_pathOK.j0 k y0 y1) (impl_pathOK.j0 (k + 1) y0 y1)) ∧ (∀ y0 y1 y2,LeO (impl_pathOK.l0 k y0 y1 y2) (impl_pathOK.l0 (k + 1) y0 y1 y2))
 | 0 => ⟨fun _ _ r h => by simp [impl_pathOK.j0] at h,fun _ _ _ r h => by simp [impl_pathOK.l0] at h⟩
 | k + 1 => by
  obtain ⟨ih0,ih1⟩:=impl_pathOK.mono_l k
  refine ⟨?_,?_⟩
  ·intro y0 y1
   unfold impl_pathOK.j0
   repeat' first
   | (with_reducible exact ih0 _ _)
   | (with_reducible exact ih1 _ _ _)
   | (with_reducible exact LeO.refl _)
   | (with_reducible exact LeO.none _)
   | (with_reducible refine LeO.ite ?_ ?_)
   | (with_reducible refine LeO.bind ?_ (fun _ => ?_))
   | exact ih0 _ _
   | exact ih1 _ _ _
   | exact LeO.none _
   | refine LeO.ite ?_ ?_
   | refine LeO.bind ?_ (fun _ => ?_)
  ·intro y0 y1 y2
   unfold impl_pathOK.l0
   repeat' first
   | (with_reducible exact ih0 _ _)
   | (with_reducible exact ih1 _ _ _)
   | (with_reducible exact LeO.refl _)
   | (with_reducible exact LeO.none _)
   | (with_reducible refine LeO.ite ?_ ?_)
   | (with_reducible refine LeO.bind ?_ (fun _ => ?_))
   | exact ih0 _ _
   | exact ih1 _ _ _
   | exact LeO.none _
   | refine LeO.ite ?_ ?_
   | refine LeO.bind ?_ (fun _ => ?_)
theorem impl_pathOK.mono : ∀ a0 k,LeO (impl_pathOK.f k a0) (impl_pathOK.f (k + 1) a0):=by
 intro a0 k
 obtain ⟨ih0,ih1⟩:=impl_pathOK.mono_l k
 unfold impl_pathOK.f
 repeat' first
   | (with_reducible exact ih0 _ _)
   | (with_reducible exact ih1 _ _ _)
   | (with_reducible exact LeO.refl _)
   | (with_reducible exact LeO.none _)
   | (with_reducible refine LeO.ite ?_ ?_)
   | (with_reducible refine LeO.bind ?_ (fun _ => ?_))
   | exact ih0 _ _
   | exact ih1 _ _ _
   | exact LeO.none _
   | refine LeO.ite ?_ ?_
   | refine LeO.bind ?_ (fun _ => ?_)
set_option maxHeartbeats 8000000 in
set_option maxRecDepth 100000 in
theorem impl_pathOK.calls (k : Nat) (a0 : ByteArray) (r : Bool) (w : World) (h : impl_pathOK.f k a0 = some r) :
  Calls Tryd.prog 38 #[.string a0] w fun e w' => e = .returned (.bool r) ∧ Drawn0 w w':=by
 have H : ((impl_within.f (a0.size : Int) 1 40).bind fun t121 => (if t121 = true then (if 0 < (a0.size : Int) then (impl_pathOK.j0 k a0 ((bt a0 0) != 47)) else (none)) else (impl_pathOK.j0 k a0 true))) = some r:=h
 clear h
 have HC2:=aMk H
 clear H
 go_enter Tryd.func38,Tryd.ntmps38
 go_upto_region 1 with (fail)
 go_cut [12] (fun v12 wc => ∃ (kq : Nat) (x12_1 : Bool),v12 = .bool x12_1 ∧ Aside0 (impl_pathOK.j0 kq a0 x12_1 = some r) ∧ Aside0 (kq ≤ k) ∧ Drawn0 w wc)
 case first =>
  have H:=HC2.out
  clear HC2
  replace H:=Option.bind_eq_some_iff.mp H
  obtain ⟨t121,A30,H⟩:=H
  replace H : (if t121 = true then (if 0 < (a0.size : Int) then (impl_pathOK.j0 k a0 ((bt a0 0) != 47)) else (none)) else (impl_pathOK.j0 k a0 true)) = some r:=H
  have A3:=aMk A30
  clear A30
  by_cases c4 : t121 = true
  ·subst c4
   have H1 : (if 0 < (a0.size : Int) then (impl_pathOK.j0 k a0 ((bt a0 0) != 47)) else (none)) = some r:=by rw [if_pos rfl] at H;exact H
   clear H
   have H:=H1
   clear H1
   by_cases c5 : 0 < (a0.size : Int)
   ·rw [if_pos c5] at H
    have c5b0 : decide (0 < (a0.size : Int)) = true:=decide_eq_true c5
    have c5b1 : decide (0 < a0.size) = true:=decide_eq_true (by omega)
    clear c5
    (first|rw [c5b0]|(simp only [i64_w,i32_w];rw [c5b0]) | skip)
    have H':=aMk H
    clear H
    go_wp2_with (first|((with_reducible refine gate_callee (f:=59) rfl ?_);refine goesL_ (some 6) rfl rfl Tryd.func59 (by kernel_rfl) rfl #[.int .i64 (a0.size : Int),.int .i64 1,.int .i64 40] rfl (by (try simp only [List.map_toArray,List.map_cons,List.map_nil]);first | done | rfl|(simp only [List.length_drop,List.length_take];rfl)) ?_;(with_reducible refine (impl_within.calls (a0.size : Int) 1 40 true _ A3.out).mono ?_);rintro e w' ⟨rfl,⟨nd,rfl⟩⟩;refine ⟨_,rfl,?_⟩;have p6 : 0 ≤ (0 : Int):=(by omega);have q6 : 0 < a0.size:=(by have : (0 : Int) < (a0.size : Int):=of_decide_eq_true (by first|(with_reducible assumption) | assumption);omega);have hx6 : ∀ h : 0 < a0.size,((a0[0]'h).toNat : Int) = bt a0 0:=bt_at a0 0;clear p6;have qi6 : (0 < (a0.size : Int)) = True:=eq_true (of_decide_eq_true (by first|(with_reducible assumption) | assumption));replace q6:=eq_true q6))
    go_meet
    case rel => exact ⟨_,(((bt a0 0) != 47)),(by first | rfl|(simp;done)|(simp [*];done)|(simp [ne_nil_b];done)|(simp [ne_nil_b, *];done)),H',⟨by first | omega|exact Nat.le_refl _⟩,by repeat (first|exact Drawn0.refl _|apply Drawn0.step)⟩
   ·rw [if_neg c5] at H
    exact absurd H (by simp)
  ·replace c4:=Bool.eq_false_iff.mpr c4
   subst c4
   have H1 : (impl_pathOK.j0 k a0 true) = some r:=by rw [if_neg (show ¬ (false = true) by decide)] at H;exact H
   clear H
   have H:=H1
   clear H1
   have H':=aMk H
   clear H
   go_wp2_with (first|((with_reducible refine gate_callee (f:=59) rfl ?_);refine goesL_ (some 6) rfl rfl Tryd.func59 (by kernel_rfl) rfl #[.int .i64 (a0.size : Int),.int .i64 1,.int .i64 40] rfl (by (try simp only [List.map_toArray,List.map_cons,List.map_nil]);first | done | rfl|(simp only [List.length_drop,List.length_take];rfl)) ?_;(with_reducible refine (impl_within.calls (a0.size : Int) 1 40 false _ A3.out).mono ?_);rintro e w' ⟨rfl,⟨nd,rfl⟩⟩;refine ⟨_,rfl,?_⟩))
   go_meet
   case rel => exact ⟨_,(true),(by first | rfl|(simp;done)|(simp [*];done)|(simp [ne_nil_b];done)|(simp [ne_nil_b, *];done)),H',⟨by first | omega|exact Nat.le_refl _⟩,by repeat (first|exact Drawn0.refl _|apply Drawn0.step)⟩
 case rest =>
  clear HC2
  try clear p2
  try clear c3
  try clear c4
  try clear c5
  try clear c5b0
  try clear c5b1
  try clear p6
  try clear q6
  try clear hx6
  try clear qi6
  try clear p6
  try clear q6
  obtain ⟨kq,x12_1,rfl,HA,HJ1,⟨mc1,rfl⟩⟩:=hcut
  cases kq with
  | zero => exact absurd HA.out (by simp [impl_pathOK.j0])
  | succ kj1 =>
   have H:=HA.out
   clear HA
   simp only [impl_pathOK.j0] at H
   by_cases c7 : x12_1 = true
   ·subst c7
    have H1 : (some false) = some r:=by rw [if_pos rfl] at H;exact H
    clear H
    have H:=H1
    clear H1
    obtain rfl:=Option.some.inj H
    go_wp2
    go_ret
    exact ⟨by first | rfl|(simp;done)|(simp [*];done)|(simp [ne_nil_b];done)|(simp [ne_nil_b, *];done),by repeat (first|exact Drawn0.refl _|apply Drawn0.step)⟩
   ·replace c7:=Bool.eq_false_iff.mpr c7
    subst c7
    have H1 : (impl_pathOK.l0 kj1 a0 (a0.size : Int) 0) = some r:=by rw [if_neg (show ¬ (false = true) by decide)] at H;exact H
    clear H
    have H:=H1
    clear H1
    have H':=aMk H
    clear H
    go_wp2
    go_loopg [15] kj1 (fun kq v15 w' => ∃ (x15_2 : Int),v15 = .int .i64 x15_2 ∧ Aside0 (impl_pathOK.l0 kq a0 (a0.size : Int) x15_2 = some r) ∧ Aside0 (kq ≤ kj1) ∧ Drawn0 w w')
    case atStart => exact ⟨(0),(by first | rfl|(simp;done)|(simp [*];done)|(simp [ne_nil_b];done)|(simp [ne_nil_b, *];done)),H',⟨Nat.le_refl _⟩,by repeat (first|exact Drawn0.refl _|apply Drawn0.step)⟩
    case round =>
     clear H'
     try clear c1
     try clear p2
     try clear c3
     try clear c4
     try clear c5
     try clear c5b0
     try clear c5b1
     try clear p6
     try clear q6
     try clear hx6
     try clear qi6
     try clear c7
     try clear p2
     try clear p6
     try clear q6
     obtain ⟨x15_2,rfl,HA,HK2,⟨m2,rfl⟩⟩:=hrel
     cases gk with
     | zero => exact absurd HA.out (by simp [impl_pathOK.l0])
     | succ k2 =>
      have H:=HA.out
      clear HA
      simp only [impl_pathOK.l0] at H
      by_cases c8 : x15_2 < (a0.size : Int)
      ·rw [if_pos c8] at H
       have c8b0 : decide (x15_2 < (a0.size : Int)) = true:=decide_eq_true c8
       clear c8
       by_cases c9 : 0 ≤ x15_2
       ·rw [if_pos c9] at H
        have c9b0 : decide (0 ≤ x15_2) = true:=decide_eq_true c9
        clear c9
        by_cases c10 : x15_2 < (a0.size : Int)
        ·rw [if_pos c10] at H
         have c10b0 : decide (x15_2 < (a0.size : Int)) = true:=decide_eq_true c10
         clear c10
         replace H:=Option.bind_eq_some_iff.mp H
         obtain ⟨t122,A120,H⟩:=H
         replace H : (if t122 = true then (impl_pathOK.l0 k2 a0 (a0.size : Int) (wrap64 (x15_2 + 1))) else ((impl_isDigit.f (bt a0 x15_2)).bind fun t123 => (if t123 = true then (impl_pathOK.l0 k2 a0 (a0.size : Int) (wrap64 (x15_2 + 1))) else ((strings_IndexByte.f (⟨#[47,46,45,63,61,95]⟩ : ByteArray) (bt a0 x15_2)).bind fun t124 => (if t124 < 0 then (some false) else (impl_pathOK.l0 k2 a0 (a0.size : Int) (wrap64 (x15_2 + 1)))))))) = some r:=H
         have A12:=aMk A120
         clear A120
         by_cases c13 : t122 = true
         ·subst c13
          have H1 : (impl_pathOK.l0 k2 a0 (a0.size : Int) (wrap64 (x15_2 + 1))) = some r:=by rw [if_pos rfl] at H;exact H
          clear H
          have H:=H1
          clear H1
          have H':=aMk H
          clear H
          have p11 : 0 ≤ (x15_2 : Int):=of_decide_eq_true (by first|(with_reducible assumption) | assumption)
          have q11 : x15_2 < (a0.size : Int):=of_decide_eq_true (by first|(with_reducible assumption) | assumption)
          have hx11:=bt_at a0 x15_2
          replace p11:=eq_true p11
          replace q11:=eq_true q11
          go_wp2_with (first|((with_reducible refine gate_callee (f:=60) rfl ?_);refine goesL_ (some 21) rfl rfl Tryd.func60 (by kernel_rfl) rfl #[.int .u8 (bt a0 x15_2)] rfl (by (try simp only [List.map_toArray,List.map_cons,List.map_nil]);first | done | rfl|(simp only [List.length_drop,List.length_take];rfl)) ?_;(with_reducible refine (impl_isLetter.calls (bt a0 x15_2) true _ A12.out).mono ?_);rintro e w' ⟨rfl,⟨nd,rfl⟩⟩;refine ⟨_,rfl,?_⟩))
          go_roundg k2
          case measure => have:=HJ1.out;have:=HK2.out;omega
          case rel => exact ⟨(wrap64 (x15_2 + 1)),(by first | rfl|(simp;done)|(simp [*];done)|(simp [ne_nil_b];done)|(simp [ne_nil_b, *];done)),H',⟨by have:=HJ1.out;have:=HK2.out;omega⟩,by repeat (first|exact Drawn0.refl _|apply Drawn0.step)⟩
         ·replace c13:=Bool.eq_false_iff.mpr c13
          subst c13
          have H1 : ((impl_isDigit.f (bt a0 x15_2)).bind fun t123 => (if t123 = true then (impl_pathOK.l0 k2 a0 (a0.size : Int) (wrap64 (x15_2 + 1))) else ((strings_IndexByte.f (⟨#[47,46,45,63,61,95]⟩ : ByteArray) (bt a0 x15_2)).bind fun t124 => (if t124 < 0 then (some false) else (impl_pathOK.l0 k2 a0 (a0.size : Int) (wrap64 (x15_2 + 1))))))) = some r:=by rw [if_neg (show ¬ (false = true) by decide)] at H;exact H
          clear H
          have H:=H1
          clear H1
          replace H:=Option.bind_eq_some_iff.mp H
          obtain ⟨t123,A150,H⟩:=H
          replace H : (if t123 = true then (impl_pathOK.l0 k2 a0 (a0.size : Int) (wrap64 (x15_2 + 1))) else ((strings_IndexByte.f (⟨#[47,46,45,63,61,95]⟩ : ByteArray) (bt a0 x15_2)).bind fun t124 => (if t124 < 0 then (some false) else (impl_pathOK.l0 k2 a0 (a0.size : Int) (wrap64 (x15_2 + 1)))))) = some r:=H
          have A15:=aMk A150
          clear A150
          by_cases c16 : t123 = true
          ·subst c16
           have H1 : (impl_pathOK.l0 k2 a0 (a0.size : Int) (wrap64 (x15_2 + 1))) = some r:=by rw [if_pos rfl] at H;exact H
           clear H
           have H:=H1
           clear H1
           have H':=aMk H
           clear H
           have p11 : 0 ≤ (x15_2 : Int):=of_decide_eq_true (by first|(with_reducible assumption) | assumption)
           have q11 : x15_2 < (a0.size : Int):=of_decide_eq_true (by first|(with_reducible assumption) | assumption)
           have hx11:=bt_at a0 x15_2
           replace p11:=eq_true p11
           replace q11:=eq_true q11
           go_wp2_with (first|((with_reducible refine gate_callee (f:=60) rfl ?_);refine goesL_ (some 21) rfl rfl Tryd.func60 (by kernel_rfl) rfl #[.int .u8 (bt a0 x15_2)] rfl (by (try simp only [List.map_toArray,List.map_cons,List.map_nil]);first | done | rfl|(simp only [List.length_drop,List.length_take];rfl)) ?_;(with_reducible refine (impl_isLetter.calls (bt a0 x15_2) false _ A12.out).mono ?_);rintro e w' ⟨rfl,⟨nd,rfl⟩⟩;refine ⟨_,rfl,?_⟩;have p14 : 0 ≤ (x15_2 : Int):=of_decide_eq_true (by first|(with_reducible assumption) | assumption);have q14 : x15_2 < (a0.size : Int):=of_decide_eq_true (by first|(with_reducible assumption) | assumption);have hx14:=bt_at a0 x15_2;replace p14:=eq_true p14;replace q14:=eq_true q14)|(go_at_call 61;(with_reducible refine (impl_isDigit.calls (bt a0 x15_2) true _ A15.out).mono ?_);rintro e w' ⟨rfl,⟨nd,rfl⟩⟩))
           go_roundg k2
           case measure => have:=HJ1.out;have:=HK2.out;omega
           case rel => exact ⟨(wrap64 (x15_2 + 1)),(by first | rfl|(simp;done)|(simp [*];done)|(simp [ne_nil_b];done)|(simp [ne_nil_b, *];done)),H',⟨by have:=HJ1.out;have:=HK2.out;omega⟩,by repeat (first|exact Drawn0.refl _|apply Drawn0.step)⟩
          ·replace c16:=Bool.eq_false_iff.mpr c16
           subst c16
           have H1 : ((strings_IndexByte.f (⟨#[47,46,45,63,61,95]⟩ : ByteArray) (bt a0 x15_2)).bind fun t124 => (if t124 < 0 then (some false) else (impl_pathOK.l0 k2 a0 (a0.size : Int) (wrap64 (x15_2 + 1))))) = some r:=by rw [if_neg (show ¬ (false = true) by decide)] at H;exact H
           clear H
           have H:=H1
           clear H1
           replace H:=Option.bind_eq_some_iff.mp H
           obtain ⟨t124,A180,H⟩:=H
           replace H : (if t124 < 0 then (some false) else (impl_pathOK.l0 k2 a0 (a0.size : Int) (wrap64 (x15_2 + 1)))) = some r:=H
           have A18:=aMk A180
           clear A180
           by_cases c19 : t124 < 0
           ·rw [if_pos c19] at H
            have c19b0 : decide (t124 < 0) = true:=decide_eq_true c19
            clear c19
            obtain rfl:=Option.some.inj H
            have p11 : 0 ≤ (x15_2 : Int):=of_decide_eq_true (by first|(with_reducible assumption) | assumption)
            have q11 : x15_2 < (a0.size : Int):=of_decide_eq_true (by first|(with_reducible assumption) | assumption)
            have hx11:=bt_at a0 x15_2
            replace p11:=eq_true p11
            replace q11:=eq_true q11
            go_wp2_with (first|((with_reducible refine gate_callee (f:=60) rfl ?_);refine goesL_ (some 21) rfl rfl Tryd.func60 (by kernel_rfl) rfl #[.int .u8 (bt a0 x15_2)] rfl (by (try simp only [List.map_toArray,List.map_cons,List.map_nil]);first | done | rfl|(simp only [List.length_drop,List.length_take];rfl)) ?_;(with_reducible refine (impl_isLetter.calls (bt a0 x15_2) false _ A12.out).mono ?_);rintro e w' ⟨rfl,⟨nd,rfl⟩⟩;refine ⟨_,rfl,?_⟩;have p14 : 0 ≤ (x15_2 : Int):=of_decide_eq_true (by first|(with_reducible assumption) | assumption);have q14 : x15_2 < (a0.size : Int):=of_decide_eq_true (by first|(with_reducible assumption) | assumption);have hx14:=bt_at a0 x15_2;replace p14:=eq_true p14;replace q14:=eq_true q14)|(go_at_call 61;(with_reducible refine (impl_isDigit.calls (bt a0 x15_2) false _ A15.out).mono ?_);rintro e w' ⟨rfl,⟨nd,rfl⟩⟩;have p17 : 0 ≤ (x15_2 : Int):=of_decide_eq_true (by first|(with_reducible assumption) | assumption);have q17 : x15_2 < (a0.size : Int):=of_decide_eq_true (by first|(with_reducible assumption) | assumption);have hx17:=bt_at a0 x15_2;replace p17:=eq_true p17;replace q17:=eq_true q17)|(go_at_call 62;(with_reducible refine (strings_IndexByte.calls (⟨#[47,46,45,63,61,95]⟩ : ByteArray) (bt a0 x15_2) t124 _ A18.out).mono ?_);rintro e w' ⟨rfl,⟨nd,rfl⟩⟩))
            go_ret
            exact ⟨by first | rfl|(simp;done)|(simp [*];done)|(simp [ne_nil_b];done)|(simp [ne_nil_b, *];done),by repeat (first|exact Drawn0.refl _|apply Drawn0.step)⟩
           ·rw [if_neg c19] at H
            have c19b0 : decide (t124 < 0) = false:=decide_eq_false c19
            clear c19
            have H':=aMk H
            clear H
            have p11 : 0 ≤ (x15_2 : Int):=of_decide_eq_true (by first|(with_reducible assumption) | assumption)
            have q11 : x15_2 < (a0.size : Int):=of_decide_eq_true (by first|(with_reducible assumption) | assumption)
            have hx11:=bt_at a0 x15_2
            replace p11:=eq_true p11
            replace q11:=eq_true q11
            go_wp2_with (first|((with_reducible refine gate_callee (f:=60) rfl ?_);refine goesL_ (some 21) rfl rfl Tryd.func60 (by kernel_rfl) rfl #[.int .u8 (bt a0 x15_2)] rfl (by (try simp only [List.map_toArray,List.map_cons,List.map_nil]);first | done | rfl|(simp only [List.length_drop,List.length_take];rfl)) ?_;(with_reducible refine (impl_isLetter.calls (bt a0 x15_2) false _ A12.out).mono ?_);rintro e w' ⟨rfl,⟨nd,rfl⟩⟩;refine ⟨_,rfl,?_⟩;have p14 : 0 ≤ (x15_2 : Int):=of_decide_eq_true (by first|(with_reducible assumption) | assumption);have q14 : x15_2 < (a0.size : Int):=of_decide_eq_true (by first|(with_reducible assumption) | assumption);have hx14:=bt_at a0 x15_2;replace p14:=eq_true p14;replace q14:=eq_true q14)|(go_at_call 61;(with_reducible refine (impl_isDigit.calls (bt a0 x15_2) false _ A15.out).mono ?_);rintro e w' ⟨rfl,⟨nd,rfl⟩⟩;have p17 : 0 ≤ (x15_2 : Int):=of_decide_eq_true (by first|(with_reducible assumption) | assumption);have q17 : x15_2 < (a0.size : Int):=of_decide_eq_true (by first|(with_reducible assumption) | assumption);have hx17:=bt_at a0 x15_2;replace p17:=eq_true p17;replace q17:=eq_true q17)|(go_at_call 62;(with_reducible refine (strings_IndexByte.calls (⟨#[47,46,45,63,61,95]⟩ : ByteArray) (bt a0 x15_2) t124 _ A18.out).mono ?_);rintro e w' ⟨rfl,⟨nd,rfl⟩⟩))
            go_roundg k2
            case measure => have:=HJ1.out;have:=HK2.out;omega
            case rel => exact ⟨(wrap64 (x15_2 + 1)),(by first | rfl|(simp;done)|(simp [*];done)|(simp [ne_nil_b];done)|(simp [ne_nil_b, *];done)),H',⟨by have:=HJ1.out;have:=HK2.out;omega⟩,by repeat (first|exact Drawn0.refl _|apply Drawn0.step)⟩
        ·rw [if_neg c10] at H
         exact absurd H (by simp)
       ·rw [if_neg c9] at H
        exact absurd H (by simp)
      ·rw [if_neg c8] at H
       have c8b0 : decide (x15_2 < (a0.size : Int)) = false:=decide_eq_false c8
       clear c8
       obtain rfl:=Option.some.inj H
       go_wp2
       go_ret
       exact ⟨by first | rfl|(simp;done)|(simp [*];done)|(simp [ne_nil_b];done)|(simp [ne_nil_b, *];done),by repeat (first|exact Drawn0.refl _|apply Drawn0.step)⟩
end
section
-- IMPORT Derived.Lib.LaidTab
-- IMPORT Derived.Lib.ItoaNum
def GLp (w : World) : Prop:=Lib.TabIs Tryd.prog w "internal/strconv.uint64pow10" .u64 Lib.pow10Tab
theorem GLp_below {w w' : World} (h : GLp w) (hb : Below w.heap.size w w') : GLp w':=by
 unfold GLp Lib.TabIs World.var? at h ⊢
 cases hg : Tryd.prog.globalNamed "internal/strconv.uint64pow10" with
 | none => rw [hg] at h;cases h
 | some g =>
  rw [hg] at h
  simp only [Option.bind_some] at h ⊢
  cases hh : w.heap[g]? with
  | none => rw [hh] at h;cases h
  | some o => rw [hb.block g (blk_lt hh)];exact h
end
section
/-! ### strconv_Itoa_58: function 58 -/
-- IMPORT Derived.Shelf.Strconv.Itoa3
-- IMPORT Derived.Lib.AppendIntMem
def itoaRen : Go.Shelf.Ren:=⟨fun x => match x with | 171 => 58 | 243 => 82 | 246 => 96 | 283 => 113 | 284 => 114 | 285 => 115 | 286 => 116 | 129 => 126 | 317 => 125 | 318 => 127 | 319 => 128 | 320 => 129 | 337 => 139 | 338 => 140 | n => n,fun x => match x with | 3 => 3 | 9 => 9 | 2 => 2 | 4 => 4 | 171 => 108 | 0 => 0 | 53 => 109 | 37 => 38 | 5 => 5 | 173 => 112 | 212 => 122 | 51 => 116 | 20 => 20 | 213 => 123 | 46 => 86 | 232 => 145 | 233 => 146 | n => n,fun x => match x with | 17 => 1 | 18 => 6 | 19 => 7 | n => n⟩
set_option maxRecDepth 100000 in
theorem itoaLays : Go.Proofs.LaysM.n171 Tryd.prog itoaRen:={ mixed:=by kernel_rfl,f129:=Tryd.func126.trans (congrArg some (by kernel_rfl)),f171:=Tryd.func58.trans (congrArg some (by kernel_rfl)),f243:=Tryd.func82.trans (congrArg some (by kernel_rfl)),f246:=Tryd.func96.trans (congrArg some (by kernel_rfl)),f283:=Tryd.func113.trans (congrArg some (by kernel_rfl)),f284:=Tryd.func114.trans (congrArg some (by kernel_rfl)),f285:=Tryd.func115.trans (congrArg some (by kernel_rfl)),f286:=Tryd.func116.trans (congrArg some (by kernel_rfl)),f317:=Tryd.func125.trans (congrArg some (by kernel_rfl)),f318:=Tryd.func127.trans (congrArg some (by kernel_rfl)),f319:=Tryd.func128.trans (congrArg some (by kernel_rfl)),f320:=Tryd.func129.trans (congrArg some (by kernel_rfl)),f337:=Tryd.func139.trans (congrArg some (by kernel_rfl)),f338:=Tryd.func140.trans (congrArg some (by kernel_rfl)),t0:=Tryd.underlying0,a0:=Tryd.isAgg0,z0:=Tryd.sizeOf0,v0:=Tryd.zeroValue0,t2:=Tryd.underlying2,a2:=Tryd.isAgg2,z2:=Tryd.sizeOf2,v2:=Tryd.zeroValue2,t3:=Tryd.underlying3,a3:=Tryd.isAgg3,z3:=Tryd.sizeOf3,v3:=Tryd.zeroValue3,t4:=Tryd.underlying4,a4:=Tryd.isAgg4,z4:=Tryd.sizeOf4,v4:=Tryd.zeroValue4,t5:=Tryd.underlying5,a5:=Tryd.isAgg5,z5:=Tryd.sizeOf5,v5:=Tryd.zeroValue5,t9:=Tryd.underlying9,a9:=Tryd.isAgg9,z9:=Tryd.sizeOf9,v9:=Tryd.zeroValue9,t20:=Tryd.underlying20,a20:=Tryd.isAgg20,z20:=Tryd.sizeOf20,v20:=Tryd.zeroValue20,t37:=Tryd.underlying38,a37:=Tryd.isAgg38,z37:=Tryd.sizeOf38,v37:=Tryd.zeroValue38,t46:=Tryd.underlying86,a46:=Tryd.isAgg86,z46:=Tryd.sizeOf86,v46:=Tryd.zeroValue86,t51:=Tryd.underlying116,a51:=Tryd.isAgg116,z51:=Tryd.sizeOf116,v51:=Tryd.zeroValue116,t53:=Tryd.underlying109,a53:=Tryd.isAgg109,z53:=Tryd.sizeOf109,v53:=Tryd.zeroValue109,t171:=Tryd.underlying108,a171:=Tryd.isAgg108,z171:=Tryd.sizeOf108,v171:=Tryd.zeroValue108,t173:=Tryd.underlying112,a173:=Tryd.isAgg112,z173:=Tryd.sizeOf112,v173:=Tryd.zeroValue112,t212:=Tryd.underlying122,a212:=Tryd.isAgg122,z212:=Tryd.sizeOf122,v212:=Tryd.zeroValue122,t213:=Tryd.underlying123,a213:=Tryd.isAgg123,z213:=Tryd.sizeOf123,t232:=Tryd.underlying145,a232:=Tryd.isAgg145,z232:=Tryd.sizeOf145,v232:=Tryd.zeroValue145,t233:=Tryd.underlying146,a233:=Tryd.isAgg146,z233:=Tryd.sizeOf146,v233:=Tryd.zeroValue146,g17:=by kernel_rfl,g18:=by kernel_rfl,g19:=by kernel_rfl,i0:=by kernel_rfl,i2:=by kernel_rfl,i3:=by kernel_rfl,i4:=by kernel_rfl,i5:=by kernel_rfl,i9:=by kernel_rfl,i20:=by kernel_rfl,i37:=by kernel_rfl,i46:=by kernel_rfl,i51:=by kernel_rfl,i53:=by kernel_rfl,i171:=by kernel_rfl,i173:=by kernel_rfl,i212:=by kernel_rfl,i232:=by kernel_rfl,i233:=by kernel_rfl,m17:=by kernel_rfl,m18:=by kernel_rfl,m19:=by kernel_rfl }
def strconv_Itoa_58.f (a0 : Int) : Option ByteArray:=if -9223372036854775808 ≤ a0 ∧ a0 ≤ 9223372036854775807 then some ⟨(Lib.itoa a0).toArray⟩ else none
theorem itoa_f (n : Int) (h0 : -9223372036854775808 ≤ n) (h1 : n ≤ 9223372036854775807) : strconv_Itoa_58.f n = some ⟨(Lib.itoa n).toArray⟩:=if_pos ⟨h0,h1⟩
theorem strconv_Itoa_58.calls (a0 : Int) (r : ByteArray) (w : World) (hGp : GLp w) (h : strconv_Itoa_58.f a0 = some r) :
  Calls Tryd.prog 58 #[.int .i64 a0] w fun e w' => e = .returned (.string r) ∧ Below w.heap.size w w':=by
 by_cases hb : -9223372036854775808 ≤ a0 ∧ a0 ≤ 9223372036854775807
 ·rw [strconv_Itoa_58.f,if_pos hb] at h
  obtain rfl:=Option.some.inj h
  refine (Any.strconv_Itoa itoaLays a0 hb.1 hb.2 w hGp).mono fun e w' hh => ?_
  obtain ⟨he,k,os,rfl⟩:=hh
  exact ⟨he,Lib.below_grow _ _ (Nat.le_refl _) _ _⟩
 ·rw [strconv_Itoa_58.f,if_neg hb] at h
  cases h
end
section
/-! ### impl_page: function 39 -/
def impl_page.f (a0 : Int) (a1 : ByteArray) (a2 : ByteArray) : Option (ByteArray):=(strconv_Itoa_58.f a0).bind fun t172 => (if 9 + t172.size ≤ 9223372036854775807 then (if ((⟨#[72,84,84,80,47,49,46,49,32]⟩ : ByteArray) ++ t172).size + 1 ≤ 9223372036854775807 then ((impl_StatusWord.f a0).bind fun t173 => (if (((⟨#[72,84,84,80,47,49,46,49,32]⟩ : ByteArray) ++ t172) ++ (⟨#[32]⟩ : ByteArray)).size + t173.size ≤ 9223372036854775807 then (if ((((⟨#[72,84,84,80,47,49,46,49,32]⟩ : ByteArray) ++ t172) ++ (⟨#[32]⟩ : ByteArray)) ++ t173).size + 2 ≤ 9223372036854775807 then (if a1.toList = ([] : List UInt8) then (if (((((⟨#[72,84,84,80,47,49,46,49,32]⟩ : ByteArray) ++ t172) ++ (⟨#[32]⟩ : ByteArray)) ++ t173) ++ (⟨#[13,10]⟩ : ByteArray)).size + 16 ≤ 9223372036854775807 then ((strconv_Itoa_58.f (a2.size : Int)).bind fun t174 => (if ((((((⟨#[72,84,84,80,47,49,46,49,32]⟩ : ByteArray) ++ t172) ++ (⟨#[32]⟩ : ByteArray)) ++ t173) ++ (⟨#[13,10]⟩ : ByteArray)) ++ (⟨#[67,111,110,116,101,110,116,45,76,101,110,103,116,104,58,32]⟩ : ByteArray)).size + t174.size ≤ 9223372036854775807 then (if (((((((⟨#[72,84,84,80,47,49,46,49,32]⟩ : ByteArray) ++ t172) ++ (⟨#[32]⟩ : ByteArray)) ++ t173) ++ (⟨#[13,10]⟩ : ByteArray)) ++ (⟨#[67,111,110,116,101,110,116,45,76,101,110,103,116,104,58,32]⟩ : ByteArray)) ++ t174).size + 2 ≤ 9223372036854775807 then (if ((((((((⟨#[72,84,84,80,47,49,46,49,32]⟩ : ByteArray) ++ t172) ++ (⟨#[32]⟩ : ByteArray)) ++ t173) ++ (⟨#[13,10]⟩ : ByteArray)) ++ (⟨#[67,111,110,116,101,110,116,45,76,101,110,103,116,104,58,32]⟩ : ByteArray)) ++ t174) ++ (⟨#[13,10]⟩ : ByteArray)).size + 17 ≤ 9223372036854775807 then (if (((((((((⟨#[72,84,84,80,47,49,46,49,32]⟩ : ByteArray) ++ t172) ++ (⟨#[32]⟩ : ByteArray)) ++ t173) ++ (⟨#[13,10]⟩ : ByteArray)) ++ (⟨#[67,111,110,116,101,110,116,45,76,101,110,103,116,104,58,32]⟩ : ByteArray)) ++ t174) ++ (⟨#[13,10]⟩ : ByteArray)) ++ (⟨#[67,111,110,110,101,99,116,105,111,110,58,32,99,108,111,115,101]⟩ : ByteArray)).size + 4 ≤ 9223372036854775807 then (if ((((((((((⟨#[72,84,84,80,47,49,46,49,32]⟩ : ByteArray) ++ t172) ++ (⟨#[32]⟩ : ByteArray)) ++ t173) ++ (⟨#[13,10]⟩ : ByteArray)) ++ (⟨#[67,111,110,116,101,110,116,45,76,101,110,103,116,104,58,32]⟩ : ByteArray)) ++ t174) ++ (⟨#[13,10]⟩ : ByteArray)) ++ (⟨#[67,111,110,110,101,99,116,105,111,110,58,32,99,108,111,115,101]⟩ : ByteArray)) ++ (⟨#[13,10,13,10]⟩ : ByteArray)).size + a2.size ≤ 9223372036854775807 then (some (((((((((((⟨#[72,84,84,80,47,49,46,49,32]⟩ : ByteArray) ++ t172) ++ (⟨#[32]⟩ : ByteArray)) ++ t173) ++ (⟨#[13,10]⟩ : ByteArray)) ++ (⟨#[67,111,110,116,101,110,116,45,76,101,110,103,116,104,58,32]⟩ : ByteArray)) ++ t174) ++ (⟨#[13,10]⟩ : ByteArray)) ++ (⟨#[67,111,110,110,101,99,116,105,111,110,58,32,99,108,111,115,101]⟩ : ByteArray)) ++ (⟨#[13,10,13,10]⟩ : ByteArray)) ++ a2)) else (none)) else (none)) else (none)) else (none)) else (none))) else (none)) else (if 10 + a1.size ≤ 9223372036854775807 then (if ((⟨#[76,111,99,97,116,105,111,110,58,32]⟩ : ByteArray) ++ a1).size + 2 ≤ 9223372036854775807 then (if (((((⟨#[72,84,84,80,47,49,46,49,32]⟩ : ByteArray) ++ t172) ++ (⟨#[32]⟩ : ByteArray)) ++ t173) ++ (⟨#[13,10]⟩ : ByteArray)).size + (((⟨#[76,111,99,97,116,105,111,110,58,32]⟩ : ByteArray) ++ a1) ++ (⟨#[13,10]⟩ : ByteArray)).size ≤ 9223372036854775807 then (if ((((((⟨#[72,84,84,80,47,49,46,49,32]⟩ : ByteArray) ++ t172) ++ (⟨#[32]⟩ : ByteArray)) ++ t173) ++ (⟨#[13,10]⟩ : ByteArray)) ++ (((⟨#[76,111,99,97,116,105,111,110,58,32]⟩ : ByteArray) ++ a1) ++ (⟨#[13,10]⟩ : ByteArray))).size + 16 ≤ 9223372036854775807 then ((strconv_Itoa_58.f (a2.size : Int)).bind fun t175 => (if (((((((⟨#[72,84,84,80,47,49,46,49,32]⟩ : ByteArray) ++ t172) ++ (⟨#[32]⟩ : ByteArray)) ++ t173) ++ (⟨#[13,10]⟩ : ByteArray)) ++ (((⟨#[76,111,99,97,116,105,111,110,58,32]⟩ : ByteArray) ++ a1) ++ (⟨#[13,10]⟩ : ByteArray))) ++ (⟨#[67,111,110,116,101,110,116,45,76,101,110,103,116,104,58,32]⟩ : ByteArray)).size + t175.size ≤ 9223372036854775807 then (if ((((((((⟨#[72,84,84,80,47,49,46,49,32]⟩ : ByteArray) ++ t172) ++ (⟨#[32]⟩ : ByteArray)) ++ t173) ++ (⟨#[13,10]⟩ : ByteArray)) ++ (((⟨#[76,111,99,97,116,105,111,110,58,32]⟩ : ByteArray) ++ a1) ++ (⟨#[13,10]⟩ : ByteArray))) ++ (⟨#[67,111,110,116,101,110,116,45,76,101,110,103,116,104,58,32]⟩ : ByteArray)) ++ t175).size + 2 ≤ 9223372036854775807 then (if (((((((((⟨#[72,84,84,80,47,49,46,49,32]⟩ : ByteArray) ++ t172) ++ (⟨#[32]⟩ : ByteArray)) ++ t173) ++ (⟨#[13,10]⟩ : ByteArray)) ++ (((⟨#[76,111,99,97,116,105,111,110,58,32]⟩ : ByteArray) ++ a1) ++ (⟨#[13,10]⟩ : ByteArray))) ++ (⟨#[67,111,110,116,101,110,116,45,76,101,110,103,116,104,58,32]⟩ : ByteArray)) ++ t175) ++ (⟨#[13,10]⟩ : ByteArray)).size + 17 ≤ 9223372036854775807 then (if ((((((((((⟨#[72,84,84,80,47,49,46,49,32]⟩ : ByteArray) ++ t172) ++ (⟨#[32]⟩ : ByteArray)) ++ t173) ++ (⟨#[13,10]⟩ : ByteArray)) ++ (((⟨#[76,111,99,97,116,105,111,110,58,32]⟩ : ByteArray) ++ a1) ++ (⟨#[13,10]⟩ : ByteArray))) ++ (⟨#[67,111,110,116,101,110,116,45,76,101,110,103,116,104,58,32]⟩ : ByteArray)) ++ t175) ++ (⟨#[13,10]⟩ : ByteArray)) ++ (⟨#[67,111,110,110,101,99,116,105,111,110,58,32,99,108,111,115,101]⟩ : ByteArray)).size + 4 ≤ 9223372036854775807 then (if (((((((((((⟨#[72,84,84,80,47,49,46,49,32]⟩ : ByteArray) ++ t172) ++ (⟨#[32]⟩ : ByteArray)) ++ t173) ++ (⟨#[13,10]⟩ : ByteArray)) ++ (((⟨#[76,111,99,97,116,105,111,110,58,32]⟩ : ByteArray) ++ a1) ++ (⟨#[13,10]⟩ : ByteArray))) ++ (⟨#[67,111,110,116,101,110,116,45,76,101,110,103,116,104,58,32]⟩ : ByteArray)) ++ t175) ++ (⟨#[13,10]⟩ : ByteArray)) ++ (⟨#[67,111,110,110,101,99,116,105,111,110,58,32,99,108,111,115,101]⟩ : ByteArray)) ++ (⟨#[13,10,13,10]⟩ : ByteArray)).size + a2.size ≤ 9223372036854775807 then (some ((((((((((((⟨#[72,84,84,80,47,49,46,49,32]⟩ : ByteArray) ++ t172) ++ (⟨#[32]⟩ : ByteArray)) ++ t173) ++ (⟨#[13,10]⟩ : ByteArray)) ++ (((⟨#[76,111,99,97,116,105,111,110,58,32]⟩ : ByteArray) ++ a1) ++ (⟨#[13,10]⟩ : ByteArray))) ++ (⟨#[67,111,110,116,101,110,116,45,76,101,110,103,116,104,58,32]⟩ : ByteArray)) ++ t175) ++ (⟨#[13,10]⟩ : ByteArray)) ++ (⟨#[67,111,110,110,101,99,116,105,111,110,58,32,99,108,111,115,101]⟩ : ByteArray)) ++ (⟨#[13,10,13,10]⟩ : ByteArray)) ++ a2)) else (none)) else (none)) else (none)) else (none)) else (none))) else (none)) else (none)) else (none)) else (none))) else (none)) else (none))) else (none)) else (none))
set_option maxHeartbeats 8000000 in
set_option maxRecDepth 100000 in
theorem impl_page.calls (a0 : Int) (a1 : ByteArray) (a2 : ByteArray) (r : ByteArray) (w : World) (hGp : GLp w) (h : impl_page.f a0 a1 a2 = some r) :
  Calls Tryd.prog 39 #[.int .i64 a0,.string a1,.string a2] w fun e w' => e = .returned (.string r) ∧ Below w.heap.size w w':=by
 have HGp_:=aMk hGp
 clear hGp
 have HB:=aMk (Below.refl w.heap.size w)
 have H : ((strconv_Itoa_58.f a0).bind fun t172 => (if 9 + t172.size ≤ 9223372036854775807 then (if ((⟨#[72,84,84,80,47,49,46,49,32]⟩ : ByteArray) ++ t172).size + 1 ≤ 9223372036854775807 then ((impl_StatusWord.f a0).bind fun t173 => (if (((⟨#[72,84,84,80,47,49,46,49,32]⟩ : ByteArray) ++ t172) ++ (⟨#[32]⟩ : ByteArray)).size + t173.size ≤ 9223372036854775807 then (if ((((⟨#[72,84,84,80,47,49,46,49,32]⟩ : ByteArray) ++ t172) ++ (⟨#[32]⟩ : ByteArray)) ++ t173).size + 2 ≤ 9223372036854775807 then (if a1.toList = ([] : List UInt8) then (if (((((⟨#[72,84,84,80,47,49,46,49,32]⟩ : ByteArray) ++ t172) ++ (⟨#[32]⟩ : ByteArray)) ++ t173) ++ (⟨#[13,10]⟩ : ByteArray)).size + 16 ≤ 9223372036854775807 then ((strconv_Itoa_58.f (a2.size : Int)).bind fun t174 => (if ((((((⟨#[72,84,84,80,47,49,46,49,32]⟩ : ByteArray) ++ t172) ++ (⟨#[32]⟩ : ByteArray)) ++ t173) ++ (⟨#[13,10]⟩ : ByteArray)) ++ (⟨#[67,111,110,116,101,110,116,45,76,101,110,103,116,104,58,32]⟩ : ByteArray)).size + t174.size ≤ 9223372036854775807 then (if (((((((⟨#[72,84,84,80,47,49,46,49,32]⟩ : ByteArray) ++ t172) ++ (⟨#[32]⟩ : ByteArray)) ++ t173) ++ (⟨#[13,10]⟩ : ByteArray)) ++ (⟨#[67,111,110,116,101,110,116,45,76,101,110,103,116,104,58,32]⟩ : ByteArray)) ++ t174).size + 2 ≤ 9223372036854775807 then (if ((((((((⟨#[72,84,84,80,47,49,46,49,32]⟩ : ByteArray) ++ t172) ++ (⟨#[32]⟩ : ByteArray)) ++ t173) ++ (⟨#[13,10]⟩ : ByteArray)) ++ (⟨#[67,111,110,116,101,110,116,45,76,101,110,103,116,104,58,32]⟩ : ByteArray)) ++ t174) ++ (⟨#[13,10]⟩ : ByteArray)).size + 17 ≤ 9223372036854775807 then (if (((((((((⟨#[72,84,84,80,47,49,46,49,32]⟩ : ByteArray) ++ t172) ++ (⟨#[32]⟩ : ByteArray)) ++ t173) ++ (⟨#[13,10]⟩ : ByteArray)) ++ (⟨#[67,111,110,116,101,110,116,45,76,101,110,103,116,104,58,32]⟩ : ByteArray)) ++ t174) ++ (⟨#[13,10]⟩ : ByteArray)) ++ (⟨#[67,111,110,110,101,99,116,105,111,110,58,32,99,108,111,115,101]⟩ : ByteArray)).size + 4 ≤ 9223372036854775807 then (if ((((((((((⟨#[72,84,84,80,47,49,46,49,32]⟩ : ByteArray) ++ t172) ++ (⟨#[32]⟩ : ByteArray)) ++ t173) ++ (⟨#[13,10]⟩ : ByteArray)) ++ (⟨#[67,111,110,116,101,110,116,45,76,101,110,103,116,104,58,32]⟩ : ByteArray)) ++ t174) ++ (⟨#[13,10]⟩ : ByteArray)) ++ (⟨#[67,111,110,110,101,99,116,105,111,110,58,32,99,108,111,115,101]⟩ : ByteArray)) ++ (⟨#[13,10,13,10]⟩ : ByteArray)).size + a2.size ≤ 9223372036854775807 then (some (((((((((((⟨#[72,84,84,80,47,49,46,49,32]⟩ : ByteArray) ++ t172) ++ (⟨#[32]⟩ : ByteArray)) ++ t173) ++ (⟨#[13,10]⟩ : ByteArray)) ++ (⟨#[67,111,110,116,101,110,116,45,76,101,110,103,116,104,58,32]⟩ : ByteArray)) ++ t174) ++ (⟨#[13,10]⟩ : ByteArray)) ++ (⟨#[67,111,110,110,101,99,116,105,111,110,58,32,99,108,111,115,101]⟩ : ByteArray)) ++ (⟨#[13,10,13,10]⟩ : ByteArray)) ++ a2)) else (none)) else (none)) else (none)) else (none)) else (none))) else (none)) else (if 10 + a1.size ≤ 9223372036854775807 then (if ((⟨#[76,111,99,97,116,105,111,110,58,32]⟩ : ByteArray) ++ a1).size + 2 ≤ 9223372036854775807 then (if (((((⟨#[72,84,84,80,47,49,46,49,32]⟩ : ByteArray) ++ t172) ++ (⟨#[32]⟩ : ByteArray)) ++ t173) ++ (⟨#[13,10]⟩ : ByteArray)).size + (((⟨#[76,111,99,97,116,105,111,110,58,32]⟩ : ByteArray) ++ a1) ++ (⟨#[13,10]⟩ : ByteArray)).size ≤ 9223372036854775807 then (if ((((((⟨#[72,84,84,80,47,49,46,49,32]⟩ : ByteArray) ++ t172) ++ (⟨#[32]⟩ : ByteArray)) ++ t173) ++ (⟨#[13,10]⟩ : ByteArray)) ++ (((⟨#[76,111,99,97,116,105,111,110,58,32]⟩ : ByteArray) ++ a1) ++ (⟨#[13,10]⟩ : ByteArray))).size + 16 ≤ 9223372036854775807 then ((strconv_Itoa_58.f (a2.size : Int)).bind fun t175 => (if (((((((⟨#[72,84,84,80,47,49,46,49,32]⟩ : ByteArray) ++ t172) ++ (⟨#[32]⟩ : ByteArray)) ++ t173) ++ (⟨#[13,10]⟩ : ByteArray)) ++ (((⟨#[76,111,99,97,116,105,111,110,58,32]⟩ : ByteArray) ++ a1) ++ (⟨#[13,10]⟩ : ByteArray))) ++ (⟨#[67,111,110,116,101,110,116,45,76,101,110,103,116,104,58,32]⟩ : ByteArray)).size + t175.size ≤ 9223372036854775807 then (if ((((((((⟨#[72,84,84,80,47,49,46,49,32]⟩ : ByteArray) ++ t172) ++ (⟨#[32]⟩ : ByteArray)) ++ t173) ++ (⟨#[13,10]⟩ : ByteArray)) ++ (((⟨#[76,111,99,97,116,105,111,110,58,32]⟩ : ByteArray) ++ a1) ++ (⟨#[13,10]⟩ : ByteArray))) ++ (⟨#[67,111,110,116,101,110,116,45,76,101,110,103,116,104,58,32]⟩ : ByteArray)) ++ t175).size + 2 ≤ 9223372036854775807 then (if (((((((((⟨#[72,84,84,80,47,49,46,49,32]⟩ : ByteArray) ++ t172) ++ (⟨#[32]⟩ : ByteArray)) ++ t173) ++ (⟨#[13,10]⟩ : ByteArray)) ++ (((⟨#[76,111,99,97,116,105,111,110,58,32]⟩ : ByteArray) ++ a1) ++ (⟨#[13,10]⟩ : ByteArray))) ++ (⟨#[67,111,110,116,101,110,116,45,76,101,110,103,116,104,58,32]⟩ : ByteArray)) ++ t175) ++ (⟨#[13,10]⟩ : ByteArray)).size + 17 ≤ 9223372036854775807 then (if ((((((((((⟨#[72,84,84,80,47,49,46,49,32]⟩ : ByteArray) ++ t172) ++ (⟨#[32]⟩ : ByteArray)) ++ t173) ++ (⟨#[13,10]⟩ : ByteArray)) ++ (((⟨#[76,111,99,97,116,105,111,110,58,32]⟩ : ByteArray) ++ a1) ++ (⟨#[13,10]⟩ : ByteArray))) ++ (⟨#[67,111,110,116,101,110,116,45,76,101,110,103,116,104,58,32]⟩ : ByteArray)) ++ t175) ++ (⟨#[13,10]⟩ : ByteArray)) ++ (⟨#[67,111,110,110,101,99,116,105,111,110,58,32,99,108,111,115,101]⟩ : ByteArray)).size + 4 ≤ 9223372036854775807 then (if (((((((((((⟨#[72,84,84,80,47,49,46,49,32]⟩ : ByteArray) ++ t172) ++ (⟨#[32]⟩ : ByteArray)) ++ t173) ++ (⟨#[13,10]⟩ : ByteArray)) ++ (((⟨#[76,111,99,97,116,105,111,110,58,32]⟩ : ByteArray) ++ a1) ++ (⟨#[13,10]⟩ : ByteArray))) ++ (⟨#[67,111,110,116,101,110,116,45,76,101,110,103,116,104,58,32]⟩ : ByteArray)) ++ t175) ++ (⟨#[13,10]⟩ : ByteArray)) ++ (⟨#[67,111,110,110,101,99,116,105,111,110,58,32,99,108,111,115,101]⟩ : ByteArray)) ++ (⟨#[13,10,13,10]⟩ : ByteArray)).size + a2.size ≤ 9223372036854775807 then (some ((((((((((((⟨#[72,84,84,80,47,49,46,49,32]⟩ : ByteArray) ++ t172) ++ (⟨#[32]⟩ : ByteArray)) ++ t173) ++ (⟨#[13,10]⟩ : ByteArray)) ++ (((⟨#[76,111,99,97,116,105,111,110,58,32]⟩ : ByteArray) ++ a1) ++ (⟨#[13,10]⟩ : ByteArray))) ++ (⟨#[67,111,110,116,101,110,116,45,76,101,110,103,116,104,58,32]⟩ : ByteArray)) ++ t175) ++ (⟨#[13,10]⟩ : ByteArray)) ++ (⟨#[67,111,110,110,101,99,116,105,111,110,58,32,99,108,111,115,101]⟩ : ByteArray)) ++ (⟨#[13,10,13,10]⟩ : ByteArray)) ++ a2)) else (none)) else (none)) else (none)) else (none)) else (none))) else (none)) else (none)) else (none)) else (none))) else (none)) else (none))) else (none)) else (none))) = some r:=h
 clear h
 replace H:=Option.bind_eq_some_iff.mp H
 obtain ⟨t172,A40,H⟩:=H
 replace H : (if 9 + t172.size ≤ 9223372036854775807 then (if ((⟨#[72,84,84,80,47,49,46,49,32]⟩ : ByteArray) ++ t172).size + 1 ≤ 9223372036854775807 then ((impl_StatusWord.f a0).bind fun t173 => (if (((⟨#[72,84,84,80,47,49,46,49,32]⟩ : ByteArray) ++ t172) ++ (⟨#[32]⟩ : ByteArray)).size + t173.size ≤ 9223372036854775807 then (if ((((⟨#[72,84,84,80,47,49,46,49,32]⟩ : ByteArray) ++ t172) ++ (⟨#[32]⟩ : ByteArray)) ++ t173).size + 2 ≤ 9223372036854775807 then (if a1.toList = ([] : List UInt8) then (if (((((⟨#[72,84,84,80,47,49,46,49,32]⟩ : ByteArray) ++ t172) ++ (⟨#[32]⟩ : ByteArray)) ++ t173) ++ (⟨#[13,10]⟩ : ByteArray)).size + 16 ≤ 9223372036854775807 then ((strconv_Itoa_58.f (a2.size : Int)).bind fun t174 => (if ((((((⟨#[72,84,84,80,47,49,46,49,32]⟩ : ByteArray) ++ t172) ++ (⟨#[32]⟩ : ByteArray)) ++ t173) ++ (⟨#[13,10]⟩ : ByteArray)) ++ (⟨#[67,111,110,116,101,110,116,45,76,101,110,103,116,104,58,32]⟩ : ByteArray)).size + t174.size ≤ 9223372036854775807 then (if (((((((⟨#[72,84,84,80,47,49,46,49,32]⟩ : ByteArray) ++ t172) ++ (⟨#[32]⟩ : ByteArray)) ++ t173) ++ (⟨#[13,10]⟩ : ByteArray)) ++ (⟨#[67,111,110,116,101,110,116,45,76,101,110,103,116,104,58,32]⟩ : ByteArray)) ++ t174).size + 2 ≤ 9223372036854775807 then (if ((((((((⟨#[72,84,84,80,47,49,46,49,32]⟩ : ByteArray) ++ t172) ++ (⟨#[32]⟩ : ByteArray)) ++ t173) ++ (⟨#[13,10]⟩ : ByteArray)) ++ (⟨#[67,111,110,116,101,110,116,45,76,101,110,103,116,104,58,32]⟩ : ByteArray)) ++ t174) ++ (⟨#[13,10]⟩ : ByteArray)).size + 17 ≤ 9223372036854775807 then (if (((((((((⟨#[72,84,84,80,47,49,46,49,32]⟩ : ByteArray) ++ t172) ++ (⟨#[32]⟩ : ByteArray)) ++ t173) ++ (⟨#[13,10]⟩ : ByteArray)) ++ (⟨#[67,111,110,116,101,110,116,45,76,101,110,103,116,104,58,32]⟩ : ByteArray)) ++ t174) ++ (⟨#[13,10]⟩ : ByteArray)) ++ (⟨#[67,111,110,110,101,99,116,105,111,110,58,32,99,108,111,115,101]⟩ : ByteArray)).size + 4 ≤ 9223372036854775807 then (if ((((((((((⟨#[72,84,84,80,47,49,46,49,32]⟩ : ByteArray) ++ t172) ++ (⟨#[32]⟩ : ByteArray)) ++ t173) ++ (⟨#[13,10]⟩ : ByteArray)) ++ (⟨#[67,111,110,116,101,110,116,45,76,101,110,103,116,104,58,32]⟩ : ByteArray)) ++ t174) ++ (⟨#[13,10]⟩ : ByteArray)) ++ (⟨#[67,111,110,110,101,99,116,105,111,110,58,32,99,108,111,115,101]⟩ : ByteArray)) ++ (⟨#[13,10,13,10]⟩ : ByteArray)).size + a2.size ≤ 9223372036854775807 then (some (((((((((((⟨#[72,84,84,80,47,49,46,49,32]⟩ : ByteArray) ++ t172) ++ (⟨#[32]⟩ : ByteArray)) ++ t173) ++ (⟨#[13,10]⟩ : ByteArray)) ++ (⟨#[67,111,110,116,101,110,116,45,76,101,110,103,116,104,58,32]⟩ : ByteArray)) ++ t174) ++ (⟨#[13,10]⟩ : ByteArray)) ++ (⟨#[67,111,110,110,101,99,116,105,111,110,58,32,99,108,111,115,101]⟩ : ByteArray)) ++ (⟨#[13,10,13,10]⟩ : ByteArray)) ++ a2)) else (none)) else (none)) else (none)) else (none)) else (none))) else (none)) else (if 10 + a1.size ≤ 9223372036854775807 then (if ((⟨#[76,111,99,97,116,105,111,110,58,32]⟩ : ByteArray) ++ a1).size + 2 ≤ 9223372036854775807 then (if (((((⟨#[72,84,84,80,47,49,46,49,32]⟩ : ByteArray) ++ t172) ++ (⟨#[32]⟩ : ByteArray)) ++ t173) ++ (⟨#[13,10]⟩ : ByteArray)).size + (((⟨#[76,111,99,97,116,105,111,110,58,32]⟩ : ByteArray) ++ a1) ++ (⟨#[13,10]⟩ : ByteArray)).size ≤ 9223372036854775807 then (if ((((((⟨#[72,84,84,80,47,49,46,49,32]⟩ : ByteArray) ++ t172) ++ (⟨#[32]⟩ : ByteArray)) ++ t173) ++ (⟨#[13,10]⟩ : ByteArray)) ++ (((⟨#[76,111,99,97,116,105,111,110,58,32]⟩ : ByteArray) ++ a1) ++ (⟨#[13,10]⟩ : ByteArray))).size + 16 ≤ 9223372036854775807 then ((strconv_Itoa_58.f (a2.size : Int)).bind fun t175 => (if (((((((⟨#[72,84,84,80,47,49,46,49,32]⟩ : ByteArray) ++ t172) ++ (⟨#[32]⟩ : ByteArray)) ++ t173) ++ (⟨#[13,10]⟩ : ByteArray)) ++ (((⟨#[76,111,99,97,116,105,111,110,58,32]⟩ : ByteArray) ++ a1) ++ (⟨#[13,10]⟩ : ByteArray))) ++ (⟨#[67,111,110,116,101,110,116,45,76,101,110,103,116,104,58,32]⟩ : ByteArray)).size + t175.size ≤ 9223372036854775807 then (if ((((((((⟨#[72,84,84,80,47,49,46,49,32]⟩ : ByteArray) ++ t172) ++ (⟨#[32]⟩ : ByteArray)) ++ t173) ++ (⟨#[13,10]⟩ : ByteArray)) ++ (((⟨#[76,111,99,97,116,105,111,110,58,32]⟩ : ByteArray) ++ a1) ++ (⟨#[13,10]⟩ : ByteArray))) ++ (⟨#[67,111,110,116,101,110,116,45,76,101,110,103,116,104,58,32]⟩ : ByteArray)) ++ t175).size + 2 ≤ 9223372036854775807 then (if (((((((((⟨#[72,84,84,80,47,49,46,49,32]⟩ : ByteArray) ++ t172) ++ (⟨#[32]⟩ : ByteArray)) ++ t173) ++ (⟨#[13,10]⟩ : ByteArray)) ++ (((⟨#[76,111,99,97,116,105,111,110,58,32]⟩ : ByteArray) ++ a1) ++ (⟨#[13,10]⟩ : ByteArray))) ++ (⟨#[67,111,110,116,101,110,116,45,76,101,110,103,116,104,58,32]⟩ : ByteArray)) ++ t175) ++ (⟨#[13,10]⟩ : ByteArray)).size + 17 ≤ 9223372036854775807 then (if ((((((((((⟨#[72,84,84,80,47,49,46,49,32]⟩ : ByteArray) ++ t172) ++ (⟨#[32]⟩ : ByteArray)) ++ t173) ++ (⟨#[13,10]⟩ : ByteArray)) ++ (((⟨#[76,111,99,97,116,105,111,110,58,32]⟩ : ByteArray) ++ a1) ++ (⟨#[13,10]⟩ : ByteArray))) ++ (⟨#[67,111,110,116,101,110,116,45,76,101,110,103,116,104,58,32]⟩ : ByteArray)) ++ t175) ++ (⟨#[13,10]⟩ : ByteArray)) ++ (⟨#[67,111,110,110,101,99,116,105,111,110,58,32,99,108,111,115,101]⟩ : ByteArray)).size + 4 ≤ 9223372036854775807 then (if (((((((((((⟨#[72,84,84,80,47,49,46,49,32]⟩ : ByteArray) ++ t172) ++ (⟨#[32]⟩ : ByteArray)) ++ t173) ++ (⟨#[13,10]⟩ : ByteArray)) ++ (((⟨#[76,111,99,97,116,105,111,110,58,32]⟩ : ByteArray) ++ a1) ++ (⟨#[13,10]⟩ : ByteArray))) ++ (⟨#[67,111,110,116,101,110,116,45,76,101,110,103,116,104,58,32]⟩ : ByteArray)) ++ t175) ++ (⟨#[13,10]⟩ : ByteArray)) ++ (⟨#[67,111,110,110,101,99,116,105,111,110,58,32,99,108,111,115,101]⟩ : ByteArray)) ++ (⟨#[13,10,13,10]⟩ : ByteArray)).size + a2.size ≤ 9223372036854775807 then (some ((((((((((((⟨#[72,84,84,80,47,49,46,49,32]⟩ : ByteArray) ++ t172) ++ (⟨#[32]⟩ : ByteArray)) ++ t173) ++ (⟨#[13,10]⟩ : ByteArray)) ++ (((⟨#[76,111,99,97,116,105,111,110,58,32]⟩ : ByteArray) ++ a1) ++ (⟨#[13,10]⟩ : ByteArray))) ++ (⟨#[67,111,110,116,101,110,116,45,76,101,110,103,116,104,58,32]⟩ : ByteArray)) ++ t175) ++ (⟨#[13,10]⟩ : ByteArray)) ++ (⟨#[67,111,110,110,101,99,116,105,111,110,58,32,99,108,111,115,101]⟩ : ByteArray)) ++ (⟨#[13,10,13,10]⟩ : ByteArray)) ++ a2)) else (none)) else (none)) else (none)) else (none)) else (none))) else (none)) else (none)) else (none)) else (none))) else (none)) else (none))) else (none)) else (none)) = some r:=H
 have A4:=aMk A40
 clear A40
 by_cases c5 : 9 + t172.size ≤ 9223372036854775807
 ·rw [if_pos c5] at H
  have c5b0:=eq_true c5
  have c5b1 : decide (9 + t172.size ≤ 9223372036854775807) = true:=decide_eq_true c5
  try have c5b2 : (9223372036854775807 < 9 + t172.size) = False:=eq_false (Nat.not_lt.2 c5)
  by_cases c6 : ((⟨#[72,84,84,80,47,49,46,49,32]⟩ : ByteArray) ++ t172).size + 1 ≤ 9223372036854775807
  ·rw [if_pos c6] at H
   have c6b0:=eq_true c6
   have c6b1 : decide (((⟨#[72,84,84,80,47,49,46,49,32]⟩ : ByteArray) ++ t172).size + 1 ≤ 9223372036854775807) = true:=decide_eq_true c6
   try have c6b2 : (9223372036854775807 < ((⟨#[72,84,84,80,47,49,46,49,32]⟩ : ByteArray) ++ t172).size + 1) = False:=eq_false (Nat.not_lt.2 c6)
   try have c6b3 : (9223372036854775807 < 9 + t172.size + 1) = False:=by rw [← show ((⟨#[72,84,84,80,47,49,46,49,32]⟩ : ByteArray) ++ t172).size = 9 + t172.size from by (simp only [ByteArray.size_append];rfl)];exact c6b2
   replace H:=Option.bind_eq_some_iff.mp H
   obtain ⟨t173,A70,H⟩:=H
   replace H : (if (((⟨#[72,84,84,80,47,49,46,49,32]⟩ : ByteArray) ++ t172) ++ (⟨#[32]⟩ : ByteArray)).size + t173.size ≤ 9223372036854775807 then (if ((((⟨#[72,84,84,80,47,49,46,49,32]⟩ : ByteArray) ++ t172) ++ (⟨#[32]⟩ : ByteArray)) ++ t173).size + 2 ≤ 9223372036854775807 then (if a1.toList = ([] : List UInt8) then (if (((((⟨#[72,84,84,80,47,49,46,49,32]⟩ : ByteArray) ++ t172) ++ (⟨#[32]⟩ : ByteArray)) ++ t173) ++ (⟨#[13,10]⟩ : ByteArray)).size + 16 ≤ 9223372036854775807 then ((strconv_Itoa_58.f (a2.size : Int)).bind fun t174 => (if ((((((⟨#[72,84,84,80,47,49,46,49,32]⟩ : ByteArray) ++ t172) ++ (⟨#[32]⟩ : ByteArray)) ++ t173) ++ (⟨#[13,10]⟩ : ByteArray)) ++ (⟨#[67,111,110,116,101,110,116,45,76,101,110,103,116,104,58,32]⟩ : ByteArray)).size + t174.size ≤ 9223372036854775807 then (if (((((((⟨#[72,84,84,80,47,49,46,49,32]⟩ : ByteArray) ++ t172) ++ (⟨#[32]⟩ : ByteArray)) ++ t173) ++ (⟨#[13,10]⟩ : ByteArray)) ++ (⟨#[67,111,110,116,101,110,116,45,76,101,110,103,116,104,58,32]⟩ : ByteArray)) ++ t174).size + 2 ≤ 9223372036854775807 then (if ((((((((⟨#[72,84,84,80,47,49,46,49,32]⟩ : ByteArray) ++ t172) ++ (⟨#[32]⟩ : ByteArray)) ++ t173) ++ (⟨#[13,10]⟩ : ByteArray)) ++ (⟨#[67,111,110,116,101,110,116,45,76,101,110,103,116,104,58,32]⟩ : ByteArray)) ++ t174) ++ (⟨#[13,10]⟩ : ByteArray)).size + 17 ≤ 9223372036854775807 then (if (((((((((⟨#[72,84,84,80,47,49,46,49,32]⟩ : ByteArray) ++ t172) ++ (⟨#[32]⟩ : ByteArray)) ++ t173) ++ (⟨#[13,10]⟩ : ByteArray)) ++ (⟨#[67,111,110,116,101,110,116,45,76,101,110,103,116,104,58,32]⟩ : ByteArray)) ++ t174) ++ (⟨#[13,10]⟩ : ByteArray)) ++ (⟨#[67,111,110,110,101,99,116,105,111,110,58,32,99,108,111,115,101]⟩ : ByteArray)).size + 4 ≤ 9223372036854775807 then (if ((((((((((⟨#[72,84,84,80,47,49,46,49,32]⟩ : ByteArray) ++ t172) ++ (⟨#[32]⟩ : ByteArray)) ++ t173) ++ (⟨#[13,10]⟩ : ByteArray)) ++ (⟨#[67,111,110,116,101,110,116,45,76,101,110,103,116,104,58,32]⟩ : ByteArray)) ++ t174) ++ (⟨#[13,10]⟩ : ByteArray)) ++ (⟨#[67,111,110,110,101,99,116,105,111,110,58,32,99,108,111,115,101]⟩ : ByteArray)) ++ (⟨#[13,10,13,10]⟩ : ByteArray)).size + a2.size ≤ 9223372036854775807 then (some (((((((((((⟨#[72,84,84,80,47,49,46,49,32]⟩ : ByteArray) ++ t172) ++ (⟨#[32]⟩ : ByteArray)) ++ t173) ++ (⟨#[13,10]⟩ : ByteArray)) ++ (⟨#[67,111,110,116,101,110,116,45,76,101,110,103,116,104,58,32]⟩ : ByteArray)) ++ t174) ++ (⟨#[13,10]⟩ : ByteArray)) ++ (⟨#[67,111,110,110,101,99,116,105,111,110,58,32,99,108,111,115,101]⟩ : ByteArray)) ++ (⟨#[13,10,13,10]⟩ : ByteArray)) ++ a2)) else (none)) else (none)) else (none)) else (none)) else (none))) else (none)) else (if 10 + a1.size ≤ 9223372036854775807 then (if ((⟨#[76,111,99,97,116,105,111,110,58,32]⟩ : ByteArray) ++ a1).size + 2 ≤ 9223372036854775807 then (if (((((⟨#[72,84,84,80,47,49,46,49,32]⟩ : ByteArray) ++ t172) ++ (⟨#[32]⟩ : ByteArray)) ++ t173) ++ (⟨#[13,10]⟩ : ByteArray)).size + (((⟨#[76,111,99,97,116,105,111,110,58,32]⟩ : ByteArray) ++ a1) ++ (⟨#[13,10]⟩ : ByteArray)).size ≤ 9223372036854775807 then (if ((((((⟨#[72,84,84,80,47,49,46,49,32]⟩ : ByteArray) ++ t172) ++ (⟨#[32]⟩ : ByteArray)) ++ t173) ++ (⟨#[13,10]⟩ : ByteArray)) ++ (((⟨#[76,111,99,97,116,105,111,110,58,32]⟩ : ByteArray) ++ a1) ++ (⟨#[13,10]⟩ : ByteArray))).size + 16 ≤ 9223372036854775807 then ((strconv_Itoa_58.f (a2.size : Int)).bind fun t175 => (if (((((((⟨#[72,84,84,80,47,49,46,49,32]⟩ : ByteArray) ++ t172) ++ (⟨#[32]⟩ : ByteArray)) ++ t173) ++ (⟨#[13,10]⟩ : ByteArray)) ++ (((⟨#[76,111,99,97,116,105,111,110,58,32]⟩ : ByteArray) ++ a1) ++ (⟨#[13,10]⟩ : ByteArray))) ++ (⟨#[67,111,110,116,101,110,116,45,76,101,110,103,116,104,58,32]⟩ : ByteArray)).size + t175.size ≤ 9223372036854775807 then (if ((((((((⟨#[72,84,84,80,47,49,46,49,32]⟩ : ByteArray) ++ t172) ++ (⟨#[32]⟩ : ByteArray)) ++ t173) ++ (⟨#[13,10]⟩ : ByteArray)) ++ (((⟨#[76,111,99,97,116,105,111,110,58,32]⟩ : ByteArray) ++ a1) ++ (⟨#[13,10]⟩ : ByteArray))) ++ (⟨#[67,111,110,116,101,110,116,45,76,101,110,103,116,104,58,32]⟩ : ByteArray)) ++ t175).size + 2 ≤ 9223372036854775807 then (if (((((((((⟨#[72,84,84,80,47,49,46,49,32]⟩ : ByteArray) ++ t172) ++ (⟨#[32]⟩ : ByteArray)) ++ t173) ++ (⟨#[13,10]⟩ : ByteArray)) ++ (((⟨#[76,111,99,97,116,105,111,110,58,32]⟩ : ByteArray) ++ a1) ++ (⟨#[13,10]⟩ : ByteArray))) ++ (⟨#[67,111,110,116,101,110,116,45,76,101,110,103,116,104,58,32]⟩ : ByteArray)) ++ t175) ++ (⟨#[13,10]⟩ : ByteArray)).size + 17 ≤ 9223372036854775807 then (if ((((((((((⟨#[72,84,84,80,47,49,46,49,32]⟩ : ByteArray) ++ t172) ++ (⟨#[32]⟩ : ByteArray)) ++ t173) ++ (⟨#[13,10]⟩ : ByteArray)) ++ (((⟨#[76,111,99,97,116,105,111,110,58,32]⟩ : ByteArray) ++ a1) ++ (⟨#[13,10]⟩ : ByteArray))) ++ (⟨#[67,111,110,116,101,110,116,45,76,101,110,103,116,104,58,32]⟩ : ByteArray)) ++ t175) ++ (⟨#[13,10]⟩ : ByteArray)) ++ (⟨#[67,111,110,110,101,99,116,105,111,110,58,32,99,108,111,115,101]⟩ : ByteArray)).size + 4 ≤ 9223372036854775807 then (if (((((((((((⟨#[72,84,84,80,47,49,46,49,32]⟩ : ByteArray) ++ t172) ++ (⟨#[32]⟩ : ByteArray)) ++ t173) ++ (⟨#[13,10]⟩ : ByteArray)) ++ (((⟨#[76,111,99,97,116,105,111,110,58,32]⟩ : ByteArray) ++ a1) ++ (⟨#[13,10]⟩ : ByteArray))) ++ (⟨#[67,111,110,116,101,110,116,45,76,101,110,103,116,104,58,32]⟩ : ByteArray)) ++ t175) ++ (⟨#[13,10]⟩ : ByteArray)) ++ (⟨#[67,111,110,110,101,99,116,105,111,110,58,32,99,108,111,115,101]⟩ : ByteArray)) ++ (⟨#[13,10,13,10]⟩ : ByteArray)).size + a2.size ≤ 9223372036854775807 then (some ((((((((((((⟨#[72,84,84,80,47,49,46,49,32]⟩ : ByteArray) ++ t172) ++ (⟨#[32]⟩ : ByteArray)) ++ t173) ++ (⟨#[13,10]⟩ : ByteArray)) ++ (((⟨#[76,111,99,97,116,105,111,110,58,32]⟩ : ByteArray) ++ a1) ++ (⟨#[13,10]⟩ : ByteArray))) ++ (⟨#[67,111,110,116,101,110,116,45,76,101,110,103,116,104,58,32]⟩ : ByteArray)) ++ t175) ++ (⟨#[13,10]⟩ : ByteArray)) ++ (⟨#[67,111,110,110,101,99,116,105,111,110,58,32,99,108,111,115,101]⟩ : ByteArray)) ++ (⟨#[13,10,13,10]⟩ : ByteArray)) ++ a2)) else (none)) else (none)) else (none)) else (none)) else (none))) else (none)) else (none)) else (none)) else (none))) else (none)) else (none)) = some r:=H
   have A7:=aMk A70
   clear A70
   by_cases c8 : (((⟨#[72,84,84,80,47,49,46,49,32]⟩ : ByteArray) ++ t172) ++ (⟨#[32]⟩ : ByteArray)).size + t173.size ≤ 9223372036854775807
   ·rw [if_pos c8] at H
    have c8b0:=eq_true c8
    have c8b1 : decide ((((⟨#[72,84,84,80,47,49,46,49,32]⟩ : ByteArray) ++ t172) ++ (⟨#[32]⟩ : ByteArray)).size + t173.size ≤ 9223372036854775807) = true:=decide_eq_true c8
    try have c8b2 : (9223372036854775807 < (((⟨#[72,84,84,80,47,49,46,49,32]⟩ : ByteArray) ++ t172) ++ (⟨#[32]⟩ : ByteArray)).size + t173.size) = False:=eq_false (Nat.not_lt.2 c8)
    try have c8b3 : (9223372036854775807 < 9 + t172.size + 1 + t173.size) = False:=by rw [← show (((⟨#[72,84,84,80,47,49,46,49,32]⟩ : ByteArray) ++ t172) ++ (⟨#[32]⟩ : ByteArray)).size = 9 + t172.size + 1 from by (simp only [ByteArray.size_append];rfl)];exact c8b2
    by_cases c9 : ((((⟨#[72,84,84,80,47,49,46,49,32]⟩ : ByteArray) ++ t172) ++ (⟨#[32]⟩ : ByteArray)) ++ t173).size + 2 ≤ 9223372036854775807
    ·rw [if_pos c9] at H
     have c9b0:=eq_true c9
     have c9b1 : decide (((((⟨#[72,84,84,80,47,49,46,49,32]⟩ : ByteArray) ++ t172) ++ (⟨#[32]⟩ : ByteArray)) ++ t173).size + 2 ≤ 9223372036854775807) = true:=decide_eq_true c9
     try have c9b2 : (9223372036854775807 < ((((⟨#[72,84,84,80,47,49,46,49,32]⟩ : ByteArray) ++ t172) ++ (⟨#[32]⟩ : ByteArray)) ++ t173).size + 2) = False:=eq_false (Nat.not_lt.2 c9)
     try have c9b3 : (9223372036854775807 < 9 + t172.size + 1 + t173.size + 2) = False:=by rw [← show ((((⟨#[72,84,84,80,47,49,46,49,32]⟩ : ByteArray) ++ t172) ++ (⟨#[32]⟩ : ByteArray)) ++ t173).size = 9 + t172.size + 1 + t173.size from by (simp only [ByteArray.size_append];rfl)];exact c9b2
     by_cases c10 : a1.toList = ([] : List UInt8)
     ·rw [if_pos c10] at H
      have c10b0 : (a1.toList == ([] : List UInt8)) = true:=beq_iff_eq.mpr c10
      have c10b1 : (a1.toList != ([] : List UInt8)) = false:=bne_eq_false_iff_eq.mpr c10
      clear c10
      by_cases c11 : (((((⟨#[72,84,84,80,47,49,46,49,32]⟩ : ByteArray) ++ t172) ++ (⟨#[32]⟩ : ByteArray)) ++ t173) ++ (⟨#[13,10]⟩ : ByteArray)).size + 16 ≤ 9223372036854775807
      ·rw [if_pos c11] at H
       have c11b0:=eq_true c11
       have c11b1 : decide ((((((⟨#[72,84,84,80,47,49,46,49,32]⟩ : ByteArray) ++ t172) ++ (⟨#[32]⟩ : ByteArray)) ++ t173) ++ (⟨#[13,10]⟩ : ByteArray)).size + 16 ≤ 9223372036854775807) = true:=decide_eq_true c11
       try have c11b2 : (9223372036854775807 < (((((⟨#[72,84,84,80,47,49,46,49,32]⟩ : ByteArray) ++ t172) ++ (⟨#[32]⟩ : ByteArray)) ++ t173) ++ (⟨#[13,10]⟩ : ByteArray)).size + 16) = False:=eq_false (Nat.not_lt.2 c11)
       try have c11b3 : (9223372036854775807 < 9 + t172.size + 1 + t173.size + 2 + 16) = False:=by rw [← show (((((⟨#[72,84,84,80,47,49,46,49,32]⟩ : ByteArray) ++ t172) ++ (⟨#[32]⟩ : ByteArray)) ++ t173) ++ (⟨#[13,10]⟩ : ByteArray)).size = 9 + t172.size + 1 + t173.size + 2 from by (simp only [ByteArray.size_append];rfl)];exact c11b2
       replace H:=Option.bind_eq_some_iff.mp H
       obtain ⟨t174,A120,H⟩:=H
       replace H : (if ((((((⟨#[72,84,84,80,47,49,46,49,32]⟩ : ByteArray) ++ t172) ++ (⟨#[32]⟩ : ByteArray)) ++ t173) ++ (⟨#[13,10]⟩ : ByteArray)) ++ (⟨#[67,111,110,116,101,110,116,45,76,101,110,103,116,104,58,32]⟩ : ByteArray)).size + t174.size ≤ 9223372036854775807 then (if (((((((⟨#[72,84,84,80,47,49,46,49,32]⟩ : ByteArray) ++ t172) ++ (⟨#[32]⟩ : ByteArray)) ++ t173) ++ (⟨#[13,10]⟩ : ByteArray)) ++ (⟨#[67,111,110,116,101,110,116,45,76,101,110,103,116,104,58,32]⟩ : ByteArray)) ++ t174).size + 2 ≤ 9223372036854775807 then (if ((((((((⟨#[72,84,84,80,47,49,46,49,32]⟩ : ByteArray) ++ t172) ++ (⟨#[32]⟩ : ByteArray)) ++ t173) ++ (⟨#[13,10]⟩ : ByteArray)) ++ (⟨#[67,111,110,116,101,110,116,45,76,101,110,103,116,104,58,32]⟩ : ByteArray)) ++ t174) ++ (⟨#[13,10]⟩ : ByteArray)).size + 17 ≤ 9223372036854775807 then (if (((((((((⟨#[72,84,84,80,47,49,46,49,32]⟩ : ByteArray) ++ t172) ++ (⟨#[32]⟩ : ByteArray)) ++ t173) ++ (⟨#[13,10]⟩ : ByteArray)) ++ (⟨#[67,111,110,116,101,110,116,45,76,101,110,103,116,104,58,32]⟩ : ByteArray)) ++ t174) ++ (⟨#[13,10]⟩ : ByteArray)) ++ (⟨#[67,111,110,110,101,99,116,105,111,110,58,32,99,108,111,115,101]⟩ : ByteArray)).size + 4 ≤ 9223372036854775807 then (if ((((((((((⟨#[72,84,84,80,47,49,46,49,32]⟩ : ByteArray) ++ t172) ++ (⟨#[32]⟩ : ByteArray)) ++ t173) ++ (⟨#[13,10]⟩ : ByteArray)) ++ (⟨#[67,111,110,116,101,110,116,45,76,101,110,103,116,104,58,32]⟩ : ByteArray)) ++ t174) ++ (⟨#[13,10]⟩ : ByteArray)) ++ (⟨#[67,111,110,110,101,99,116,105,111,110,58,32,99,108,111,115,101]⟩ : ByteArray)) ++ (⟨#[13,10,13,10]⟩ : ByteArray)).size + a2.size ≤ 9223372036854775807 then (some (((((((((((⟨#[72,84,84,80,47,49,46,49,32]⟩ : ByteArray) ++ t172) ++ (⟨#[32]⟩ : ByteArray)) ++ t173) ++ (⟨#[13,10]⟩ : ByteArray)) ++ (⟨#[67,111,110,116,101,110,116,45,76,101,110,103,116,104,58,32]⟩ : ByteArray)) ++ t174) ++ (⟨#[13,10]⟩ : ByteArray)) ++ (⟨#[67,111,110,110,101,99,116,105,111,110,58,32,99,108,111,115,101]⟩ : ByteArray)) ++ (⟨#[13,10,13,10]⟩ : ByteArray)) ++ a2)) else (none)) else (none)) else (none)) else (none)) else (none)) = some r:=H
       have A12:=aMk A120
       clear A120
       by_cases c13 : ((((((⟨#[72,84,84,80,47,49,46,49,32]⟩ : ByteArray) ++ t172) ++ (⟨#[32]⟩ : ByteArray)) ++ t173) ++ (⟨#[13,10]⟩ : ByteArray)) ++ (⟨#[67,111,110,116,101,110,116,45,76,101,110,103,116,104,58,32]⟩ : ByteArray)).size + t174.size ≤ 9223372036854775807
       ·rw [if_pos c13] at H
        have c13b0:=eq_true c13
        have c13b1 : decide (((((((⟨#[72,84,84,80,47,49,46,49,32]⟩ : ByteArray) ++ t172) ++ (⟨#[32]⟩ : ByteArray)) ++ t173) ++ (⟨#[13,10]⟩ : ByteArray)) ++ (⟨#[67,111,110,116,101,110,116,45,76,101,110,103,116,104,58,32]⟩ : ByteArray)).size + t174.size ≤ 9223372036854775807) = true:=decide_eq_true c13
        try have c13b2 : (9223372036854775807 < ((((((⟨#[72,84,84,80,47,49,46,49,32]⟩ : ByteArray) ++ t172) ++ (⟨#[32]⟩ : ByteArray)) ++ t173) ++ (⟨#[13,10]⟩ : ByteArray)) ++ (⟨#[67,111,110,116,101,110,116,45,76,101,110,103,116,104,58,32]⟩ : ByteArray)).size + t174.size) = False:=eq_false (Nat.not_lt.2 c13)
        try have c13b3 : (9223372036854775807 < 9 + t172.size + 1 + t173.size + 2 + 16 + t174.size) = False:=by rw [← show ((((((⟨#[72,84,84,80,47,49,46,49,32]⟩ : ByteArray) ++ t172) ++ (⟨#[32]⟩ : ByteArray)) ++ t173) ++ (⟨#[13,10]⟩ : ByteArray)) ++ (⟨#[67,111,110,116,101,110,116,45,76,101,110,103,116,104,58,32]⟩ : ByteArray)).size = 9 + t172.size + 1 + t173.size + 2 + 16 from by (simp only [ByteArray.size_append];rfl)];exact c13b2
        by_cases c14 : (((((((⟨#[72,84,84,80,47,49,46,49,32]⟩ : ByteArray) ++ t172) ++ (⟨#[32]⟩ : ByteArray)) ++ t173) ++ (⟨#[13,10]⟩ : ByteArray)) ++ (⟨#[67,111,110,116,101,110,116,45,76,101,110,103,116,104,58,32]⟩ : ByteArray)) ++ t174).size + 2 ≤ 9223372036854775807
        ·rw [if_pos c14] at H
         have c14b0:=eq_true c14
         have c14b1 : decide ((((((((⟨#[72,84,84,80,47,49,46,49,32]⟩ : ByteArray) ++ t172) ++ (⟨#[32]⟩ : ByteArray)) ++ t173) ++ (⟨#[13,10]⟩ : ByteArray)) ++ (⟨#[67,111,110,116,101,110,116,45,76,101,110,103,116,104,58,32]⟩ : ByteArray)) ++ t174).size + 2 ≤ 9223372036854775807) = true:=decide_eq_true c14
         try have c14b2 : (9223372036854775807 < (((((((⟨#[72,84,84,80,47,49,46,49,32]⟩ : ByteArray) ++ t172) ++ (⟨#[32]⟩ : ByteArray)) ++ t173) ++ (⟨#[13,10]⟩ : ByteArray)) ++ (⟨#[67,111,110,116,101,110,116,45,76,101,110,103,116,104,58,32]⟩ : ByteArray)) ++ t174).size + 2) = False:=eq_false (Nat.not_lt.2 c14)
         try have c14b3 : (9223372036854775807 < 9 + t172.size + 1 + t173.size + 2 + 16 + t174.size + 2) = False:=by rw [← show (((((((⟨#[72,84,84,80,47,49,46,49,32]⟩ : ByteArray) ++ t172) ++ (⟨#[32]⟩ : ByteArray)) ++ t173) ++ (⟨#[13,10]⟩ : ByteArray)) ++ (⟨#[67,111,110,116,101,110,116,45,76,101,110,103,116,104,58,32]⟩ : ByteArray)) ++ t174).size = 9 + t172.size + 1 + t173.size + 2 + 16 + t174.size from by (simp only [ByteArray.size_append];rfl)];exact c14b2
         by_cases c15 : ((((((((⟨#[72,84,84,80,47,49,46,49,32]⟩ : ByteArray) ++ t172) ++ (⟨#[32]⟩ : ByteArray)) ++ t173) ++ (⟨#[13,10]⟩ : ByteArray)) ++ (⟨#[67,111,110,116,101,110,116,45,76,101,110,103,116,104,58,32]⟩ : ByteArray)) ++ t174) ++ (⟨#[13,10]⟩ : ByteArray)).size + 17 ≤ 9223372036854775807
         ·rw [if_pos c15] at H
          have c15b0:=eq_true c15
          have c15b1 : decide (((((((((⟨#[72,84,84,80,47,49,46,49,32]⟩ : ByteArray) ++ t172) ++ (⟨#[32]⟩ : ByteArray)) ++ t173) ++ (⟨#[13,10]⟩ : ByteArray)) ++ (⟨#[67,111,110,116,101,110,116,45,76,101,110,103,116,104,58,32]⟩ : ByteArray)) ++ t174) ++ (⟨#[13,10]⟩ : ByteArray)).size + 17 ≤ 9223372036854775807) = true:=decide_eq_true c15
          try have c15b2 : (9223372036854775807 < ((((((((⟨#[72,84,84,80,47,49,46,49,32]⟩ : ByteArray) ++ t172) ++ (⟨#[32]⟩ : ByteArray)) ++ t173) ++ (⟨#[13,10]⟩ : ByteArray)) ++ (⟨#[67,111,110,116,101,110,116,45,76,101,110,103,116,104,58,32]⟩ : ByteArray)) ++ t174) ++ (⟨#[13,10]⟩ : ByteArray)).size + 17) = False:=eq_false (Nat.not_lt.2 c15)
          try have c15b3 : (9223372036854775807 < 9 + t172.size + 1 + t173.size + 2 + 16 + t174.size + 2 + 17) = False:=by rw [← show ((((((((⟨#[72,84,84,80,47,49,46,49,32]⟩ : ByteArray) ++ t172) ++ (⟨#[32]⟩ : ByteArray)) ++ t173) ++ (⟨#[13,10]⟩ : ByteArray)) ++ (⟨#[67,111,110,116,101,110,116,45,76,101,110,103,116,104,58,32]⟩ : ByteArray)) ++ t174) ++ (⟨#[13,10]⟩ : ByteArray)).size = 9 + t172.size + 1 + t173.size + 2 + 16 + t174.size + 2 from by (simp only [ByteArray.size_append];rfl)];exact c15b2
          by_cases c16 : (((((((((⟨#[72,84,84,80,47,49,46,49,32]⟩ : ByteArray) ++ t172) ++ (⟨#[32]⟩ : ByteArray)) ++ t173) ++ (⟨#[13,10]⟩ : ByteArray)) ++ (⟨#[67,111,110,116,101,110,116,45,76,101,110,103,116,104,58,32]⟩ : ByteArray)) ++ t174) ++ (⟨#[13,10]⟩ : ByteArray)) ++ (⟨#[67,111,110,110,101,99,116,105,111,110,58,32,99,108,111,115,101]⟩ : ByteArray)).size + 4 ≤ 9223372036854775807
          ·rw [if_pos c16] at H
           have c16b0:=eq_true c16
           have c16b1 : decide ((((((((((⟨#[72,84,84,80,47,49,46,49,32]⟩ : ByteArray) ++ t172) ++ (⟨#[32]⟩ : ByteArray)) ++ t173) ++ (⟨#[13,10]⟩ : ByteArray)) ++ (⟨#[67,111,110,116,101,110,116,45,76,101,110,103,116,104,58,32]⟩ : ByteArray)) ++ t174) ++ (⟨#[13,10]⟩ : ByteArray)) ++ (⟨#[67,111,110,110,101,99,116,105,111,110,58,32,99,108,111,115,101]⟩ : ByteArray)).size + 4 ≤ 9223372036854775807) = true:=decide_eq_true c16
           try have c16b2 : (9223372036854775807 < (((((((((⟨#[72,84,84,80,47,49,46,49,32]⟩ : ByteArray) ++ t172) ++ (⟨#[32]⟩ : ByteArray)) ++ t173) ++ (⟨#[13,10]⟩ : ByteArray)) ++ (⟨#[67,111,110,116,101,110,116,45,76,101,110,103,116,104,58,32]⟩ : ByteArray)) ++ t174) ++ (⟨#[13,10]⟩ : ByteArray)) ++ (⟨#[67,111,110,110,101,99,116,105,111,110,58,32,99,108,111,115,101]⟩ : ByteArray)).size + 4) = False:=eq_false (Nat.not_lt.2 c16)
           try have c16b3 : (9223372036854775807 < 9 + t172.size + 1 + t173.size + 2 + 16 + t174.size + 2 + 17 + 4) = False:=by rw [← show (((((((((⟨#[72,84,84,80,47,49,46,49,32]⟩ : ByteArray) ++ t172) ++ (⟨#[32]⟩ : ByteArray)) ++ t173) ++ (⟨#[13,10]⟩ : ByteArray)) ++ (⟨#[67,111,110,116,101,110,116,45,76,101,110,103,116,104,58,32]⟩ : ByteArray)) ++ t174) ++ (⟨#[13,10]⟩ : ByteArray)) ++ (⟨#[67,111,110,110,101,99,116,105,111,110,58,32,99,108,111,115,101]⟩ : ByteArray)).size = 9 + t172.size + 1 + t173.size + 2 + 16 + t174.size + 2 + 17 from by (simp only [ByteArray.size_append];rfl)];exact c16b2
           by_cases c17 : ((((((((((⟨#[72,84,84,80,47,49,46,49,32]⟩ : ByteArray) ++ t172) ++ (⟨#[32]⟩ : ByteArray)) ++ t173) ++ (⟨#[13,10]⟩ : ByteArray)) ++ (⟨#[67,111,110,116,101,110,116,45,76,101,110,103,116,104,58,32]⟩ : ByteArray)) ++ t174) ++ (⟨#[13,10]⟩ : ByteArray)) ++ (⟨#[67,111,110,110,101,99,116,105,111,110,58,32,99,108,111,115,101]⟩ : ByteArray)) ++ (⟨#[13,10,13,10]⟩ : ByteArray)).size + a2.size ≤ 9223372036854775807
           ·rw [if_pos c17] at H
            have c17b0:=eq_true c17
            have c17b1 : decide (((((((((((⟨#[72,84,84,80,47,49,46,49,32]⟩ : ByteArray) ++ t172) ++ (⟨#[32]⟩ : ByteArray)) ++ t173) ++ (⟨#[13,10]⟩ : ByteArray)) ++ (⟨#[67,111,110,116,101,110,116,45,76,101,110,103,116,104,58,32]⟩ : ByteArray)) ++ t174) ++ (⟨#[13,10]⟩ : ByteArray)) ++ (⟨#[67,111,110,110,101,99,116,105,111,110,58,32,99,108,111,115,101]⟩ : ByteArray)) ++ (⟨#[13,10,13,10]⟩ : ByteArray)).size + a2.size ≤ 9223372036854775807) = true:=decide_eq_true c17
            try have c17b2 : (9223372036854775807 < ((((((((((⟨#[72,84,84,80,47,49,46,49,32]⟩ : ByteArray) ++ t172) ++ (⟨#[32]⟩ : ByteArray)) ++ t173) ++ (⟨#[13,10]⟩ : ByteArray)) ++ (⟨#[67,111,110,116,101,110,116,45,76,101,110,103,116,104,58,32]⟩ : ByteArray)) ++ t174) ++ (⟨#[13,10]⟩ : ByteArray)) ++ (⟨#[67,111,110,110,101,99,116,105,111,110,58,32,99,108,111,115,101]⟩ : ByteArray)) ++ (⟨#[13,10,13,10]⟩ : ByteArray)).size + a2.size) = False:=eq_false (Nat.not_lt.2 c17)
            try have c17b3 : (9223372036854775807 < 9 + t172.size + 1 + t173.size + 2 + 16 + t174.size + 2 + 17 + 4 + a2.size) = False:=by rw [← show ((((((((((⟨#[72,84,84,80,47,49,46,49,32]⟩ : ByteArray) ++ t172) ++ (⟨#[32]⟩ : ByteArray)) ++ t173) ++ (⟨#[13,10]⟩ : ByteArray)) ++ (⟨#[67,111,110,116,101,110,116,45,76,101,110,103,116,104,58,32]⟩ : ByteArray)) ++ t174) ++ (⟨#[13,10]⟩ : ByteArray)) ++ (⟨#[67,111,110,110,101,99,116,105,111,110,58,32,99,108,111,115,101]⟩ : ByteArray)) ++ (⟨#[13,10,13,10]⟩ : ByteArray)).size = 9 + t172.size + 1 + t173.size + 2 + 16 + t174.size + 2 + 17 + 4 from by (simp only [ByteArray.size_append];rfl)];exact c17b2
            obtain rfl:=Option.some.inj H
            go_enter Tryd.func39,Tryd.ntmps39
            go_wp2_with (first|((with_reducible refine gate_callee (f:=58) rfl ?_);refine goesL_ (some 9) rfl rfl Tryd.func58 (by kernel_rfl) rfl #[.int .i64 a0] rfl (by (try simp only [List.map_toArray,List.map_cons,List.map_nil]);first | done | rfl|(simp only [List.length_drop,List.length_take];rfl)) ?_;(with_reducible refine (strconv_Itoa_58.calls a0 t172 _ ?sideGp A4.out).mono ?_);(case sideGp => exact GLp_below HGp_.out (by repeat first|exact HB.out|apply bwA|apply bwN|apply bw1));rintro e w18 ⟨rfl,hb⟩;refine ⟨_,rfl,?_⟩;have n0_:=aMk (below_step (by repeat first|exact HB.out|apply bwA|apply bwN|apply bw1) hb);clear HB;have HB:=n0_;clear n0_;(try clear hb);(try clear hb2);(try clear hk);(try clear hi))|((with_reducible refine gate_callee (f:=27) rfl ?_);refine goesL_ (some 13) rfl rfl Tryd.func27 (by kernel_rfl) rfl #[.int .i64 a0] rfl (by (try simp only [List.map_toArray,List.map_cons,List.map_nil]);first | done | rfl|(simp only [List.length_drop,List.length_take];rfl)) ?_;(with_reducible refine (impl_StatusWord.calls a0 t173 _ A7.out).mono ?_);rintro e w' ⟨rfl,⟨nd,rfl⟩⟩;refine ⟨_,rfl,?_⟩)|((with_reducible refine gate_callee (f:=58) rfl ?_);refine goesL_ (some 27) rfl rfl Tryd.func58 (by kernel_rfl) rfl #[.int .i64 (a2.size : Int)] rfl (by (try simp only [List.map_toArray,List.map_cons,List.map_nil]);first | done | rfl|(simp only [List.length_drop,List.length_take];rfl)) ?_;(with_reducible refine (strconv_Itoa_58.calls (a2.size : Int) t174 _ ?sideGp A12.out).mono ?_);(case sideGp => exact GLp_below HGp_.out (by repeat first|exact HB.out|apply bwA|apply bwN|apply bw1));rintro e w19 ⟨rfl,hb⟩;refine ⟨_,rfl,?_⟩;have n0_:=aMk (below_step (by repeat first|exact HB.out|apply bwA|apply bwN|apply bw1) hb);clear HB;have HB:=n0_;clear n0_;(try clear hb);(try clear hb2);(try clear hk);(try clear hi)))
            go_ret
            exact ⟨by first | rfl|(simp [errW_none,errW_some] <;> rfl)|(simp [*,errW_none,errW_some] <;> rfl),by repeat (first|(with_reducible first|exact HB.out|apply bwA|apply bwN|apply bw1)|exact HB.out)⟩
           ·rw [if_neg c17] at H
            exact absurd H (by simp)
          ·rw [if_neg c16] at H
           exact absurd H (by simp)
         ·rw [if_neg c15] at H
          exact absurd H (by simp)
        ·rw [if_neg c14] at H
         exact absurd H (by simp)
       ·rw [if_neg c13] at H
        exact absurd H (by simp)
      ·rw [if_neg c11] at H
       exact absurd H (by simp)
     ·rw [if_neg c10] at H
      have c10b0 : (a1.toList == ([] : List UInt8)) = false:=beq_eq_false_iff_ne.mpr c10
      have c10b1 : (a1.toList != ([] : List UInt8)) = true:=bne_iff_ne.mpr c10
      by_cases c20 : 10 + a1.size ≤ 9223372036854775807
      ·rw [if_pos c20] at H
       have c20b0:=eq_true c20
       have c20b1 : decide (10 + a1.size ≤ 9223372036854775807) = true:=decide_eq_true c20
       try have c20b2 : (9223372036854775807 < 10 + a1.size) = False:=eq_false (Nat.not_lt.2 c20)
       by_cases c21 : ((⟨#[76,111,99,97,116,105,111,110,58,32]⟩ : ByteArray) ++ a1).size + 2 ≤ 9223372036854775807
       ·rw [if_pos c21] at H
        have c21b0:=eq_true c21
        have c21b1 : decide (((⟨#[76,111,99,97,116,105,111,110,58,32]⟩ : ByteArray) ++ a1).size + 2 ≤ 9223372036854775807) = true:=decide_eq_true c21
        try have c21b2 : (9223372036854775807 < ((⟨#[76,111,99,97,116,105,111,110,58,32]⟩ : ByteArray) ++ a1).size + 2) = False:=eq_false (Nat.not_lt.2 c21)
        try have c21b3 : (9223372036854775807 < 10 + a1.size + 2) = False:=by rw [← show ((⟨#[76,111,99,97,116,105,111,110,58,32]⟩ : ByteArray) ++ a1).size = 10 + a1.size from by (simp only [ByteArray.size_append];rfl)];exact c21b2
        by_cases c22 : (((((⟨#[72,84,84,80,47,49,46,49,32]⟩ : ByteArray) ++ t172) ++ (⟨#[32]⟩ : ByteArray)) ++ t173) ++ (⟨#[13,10]⟩ : ByteArray)).size + (((⟨#[76,111,99,97,116,105,111,110,58,32]⟩ : ByteArray) ++ a1) ++ (⟨#[13,10]⟩ : ByteArray)).size ≤ 9223372036854775807
        ·rw [if_pos c22] at H
         have c22b0:=eq_true c22
         have c22b1 : decide ((((((⟨#[72,84,84,80,47,49,46,49,32]⟩ : ByteArray) ++ t172) ++ (⟨#[32]⟩ : ByteArray)) ++ t173) ++ (⟨#[13,10]⟩ : ByteArray)).size + (((⟨#[76,111,99,97,116,105,111,110,58,32]⟩ : ByteArray) ++ a1) ++ (⟨#[13,10]⟩ : ByteArray)).size ≤ 9223372036854775807) = true:=decide_eq_true c22
         try have c22b2 : (9223372036854775807 < (((((⟨#[72,84,84,80,47,49,46,49,32]⟩ : ByteArray) ++ t172) ++ (⟨#[32]⟩ : ByteArray)) ++ t173) ++ (⟨#[13,10]⟩ : ByteArray)).size + (((⟨#[76,111,99,97,116,105,111,110,58,32]⟩ : ByteArray) ++ a1) ++ (⟨#[13,10]⟩ : ByteArray)).size) = False:=eq_false (Nat.not_lt.2 c22)
         try have c22b3 : (9223372036854775807 < 9 + t172.size + 1 + t173.size + 2 + (((⟨#[76,111,99,97,116,105,111,110,58,32]⟩ : ByteArray) ++ a1) ++ (⟨#[13,10]⟩ : ByteArray)).size) = False:=by rw [← show (((((⟨#[72,84,84,80,47,49,46,49,32]⟩ : ByteArray) ++ t172) ++ (⟨#[32]⟩ : ByteArray)) ++ t173) ++ (⟨#[13,10]⟩ : ByteArray)).size = 9 + t172.size + 1 + t173.size + 2 from by (simp only [ByteArray.size_append];rfl)];exact c22b2
         by_cases c23 : ((((((⟨#[72,84,84,80,47,49,46,49,32]⟩ : ByteArray) ++ t172) ++ (⟨#[32]⟩ : ByteArray)) ++ t173) ++ (⟨#[13,10]⟩ : ByteArray)) ++ (((⟨#[76,111,99,97,116,105,111,110,58,32]⟩ : ByteArray) ++ a1) ++ (⟨#[13,10]⟩ : ByteArray))).size + 16 ≤ 9223372036854775807
         ·rw [if_pos c23] at H
          have c23b0:=eq_true c23
          have c23b1 : decide (((((((⟨#[72,84,84,80,47,49,46,49,32]⟩ : ByteArray) ++ t172) ++ (⟨#[32]⟩ : ByteArray)) ++ t173) ++ (⟨#[13,10]⟩ : ByteArray)) ++ (((⟨#[76,111,99,97,116,105,111,110,58,32]⟩ : ByteArray) ++ a1) ++ (⟨#[13,10]⟩ : ByteArray))).size + 16 ≤ 9223372036854775807) = true:=decide_eq_true c23
          try have c23b2 : (9223372036854775807 < ((((((⟨#[72,84,84,80,47,49,46,49,32]⟩ : ByteArray) ++ t172) ++ (⟨#[32]⟩ : ByteArray)) ++ t173) ++ (⟨#[13,10]⟩ : ByteArray)) ++ (((⟨#[76,111,99,97,116,105,111,110,58,32]⟩ : ByteArray) ++ a1) ++ (⟨#[13,10]⟩ : ByteArray))).size + 16) = False:=eq_false (Nat.not_lt.2 c23)
          try have c23b3 : (9223372036854775807 < 9 + t172.size + 1 + t173.size + 2 + (10 + a1.size + 2) + 16) = False:=by rw [← show ((((((⟨#[72,84,84,80,47,49,46,49,32]⟩ : ByteArray) ++ t172) ++ (⟨#[32]⟩ : ByteArray)) ++ t173) ++ (⟨#[13,10]⟩ : ByteArray)) ++ (((⟨#[76,111,99,97,116,105,111,110,58,32]⟩ : ByteArray) ++ a1) ++ (⟨#[13,10]⟩ : ByteArray))).size = 9 + t172.size + 1 + t173.size + 2 + (10 + a1.size + 2) from by (simp only [ByteArray.size_append];rfl)];exact c23b2
          replace H:=Option.bind_eq_some_iff.mp H
          obtain ⟨t175,A240,H⟩:=H
          replace H : (if (((((((⟨#[72,84,84,80,47,49,46,49,32]⟩ : ByteArray) ++ t172) ++ (⟨#[32]⟩ : ByteArray)) ++ t173) ++ (⟨#[13,10]⟩ : ByteArray)) ++ (((⟨#[76,111,99,97,116,105,111,110,58,32]⟩ : ByteArray) ++ a1) ++ (⟨#[13,10]⟩ : ByteArray))) ++ (⟨#[67,111,110,116,101,110,116,45,76,101,110,103,116,104,58,32]⟩ : ByteArray)).size + t175.size ≤ 9223372036854775807 then (if ((((((((⟨#[72,84,84,80,47,49,46,49,32]⟩ : ByteArray) ++ t172) ++ (⟨#[32]⟩ : ByteArray)) ++ t173) ++ (⟨#[13,10]⟩ : ByteArray)) ++ (((⟨#[76,111,99,97,116,105,111,110,58,32]⟩ : ByteArray) ++ a1) ++ (⟨#[13,10]⟩ : ByteArray))) ++ (⟨#[67,111,110,116,101,110,116,45,76,101,110,103,116,104,58,32]⟩ : ByteArray)) ++ t175).size + 2 ≤ 9223372036854775807 then (if (((((((((⟨#[72,84,84,80,47,49,46,49,32]⟩ : ByteArray) ++ t172) ++ (⟨#[32]⟩ : ByteArray)) ++ t173) ++ (⟨#[13,10]⟩ : ByteArray)) ++ (((⟨#[76,111,99,97,116,105,111,110,58,32]⟩ : ByteArray) ++ a1) ++ (⟨#[13,10]⟩ : ByteArray))) ++ (⟨#[67,111,110,116,101,110,116,45,76,101,110,103,116,104,58,32]⟩ : ByteArray)) ++ t175) ++ (⟨#[13,10]⟩ : ByteArray)).size + 17 ≤ 9223372036854775807 then (if ((((((((((⟨#[72,84,84,80,47,49,46,49,32]⟩ : ByteArray) ++ t172) ++ (⟨#[32]⟩ : ByteArray)) ++ t173) ++ (⟨#[13,10]⟩ : ByteArray)) ++ (((⟨#[76,111,99,97,116,105,111,110,58,32]⟩ : ByteArray) ++ a1) ++ (⟨#[13,10]⟩ : ByteArray))) ++ (⟨#[67,111,110,116,101,110,116,45,76,101,110,103,116,104,58,32]⟩ : ByteArray)) ++ t175) ++ (⟨#[13,10]⟩ : ByteArray)) ++ (⟨#[67,111,110,110,101,99,116,105,111,110,58,32,99,108,111,115,101]⟩ : ByteArray)).size + 4 ≤ 9223372036854775807 then (if (((((((((((⟨#[72,84,84,80,47,49,46,49,32]⟩ : ByteArray) ++ t172) ++ (⟨#[32]⟩ : ByteArray)) ++ t173) ++ (⟨#[13,10]⟩ : ByteArray)) ++ (((⟨#[76,111,99,97,116,105,111,110,58,32]⟩ : ByteArray) ++ a1) ++ (⟨#[13,10]⟩ : ByteArray))) ++ (⟨#[67,111,110,116,101,110,116,45,76,101,110,103,116,104,58,32]⟩ : ByteArray)) ++ t175) ++ (⟨#[13,10]⟩ : ByteArray)) ++ (⟨#[67,111,110,110,101,99,116,105,111,110,58,32,99,108,111,115,101]⟩ : ByteArray)) ++ (⟨#[13,10,13,10]⟩ : ByteArray)).size + a2.size ≤ 9223372036854775807 then (some ((((((((((((⟨#[72,84,84,80,47,49,46,49,32]⟩ : ByteArray) ++ t172) ++ (⟨#[32]⟩ : ByteArray)) ++ t173) ++ (⟨#[13,10]⟩ : ByteArray)) ++ (((⟨#[76,111,99,97,116,105,111,110,58,32]⟩ : ByteArray) ++ a1) ++ (⟨#[13,10]⟩ : ByteArray))) ++ (⟨#[67,111,110,116,101,110,116,45,76,101,110,103,116,104,58,32]⟩ : ByteArray)) ++ t175) ++ (⟨#[13,10]⟩ : ByteArray)) ++ (⟨#[67,111,110,110,101,99,116,105,111,110,58,32,99,108,111,115,101]⟩ : ByteArray)) ++ (⟨#[13,10,13,10]⟩ : ByteArray)) ++ a2)) else (none)) else (none)) else (none)) else (none)) else (none)) = some r:=H
          have A24:=aMk A240
          clear A240
          by_cases c25 : (((((((⟨#[72,84,84,80,47,49,46,49,32]⟩ : ByteArray) ++ t172) ++ (⟨#[32]⟩ : ByteArray)) ++ t173) ++ (⟨#[13,10]⟩ : ByteArray)) ++ (((⟨#[76,111,99,97,116,105,111,110,58,32]⟩ : ByteArray) ++ a1) ++ (⟨#[13,10]⟩ : ByteArray))) ++ (⟨#[67,111,110,116,101,110,116,45,76,101,110,103,116,104,58,32]⟩ : ByteArray)).size + t175.size ≤ 9223372036854775807
          ·rw [if_pos c25] at H
           have c25b0:=eq_true c25
           have c25b1 : decide ((((((((⟨#[72,84,84,80,47,49,46,49,32]⟩ : ByteArray) ++ t172) ++ (⟨#[32]⟩ : ByteArray)) ++ t173) ++ (⟨#[13,10]⟩ : ByteArray)) ++ (((⟨#[76,111,99,97,116,105,111,110,58,32]⟩ : ByteArray) ++ a1) ++ (⟨#[13,10]⟩ : ByteArray))) ++ (⟨#[67,111,110,116,101,110,116,45,76,101,110,103,116,104,58,32]⟩ : ByteArray)).size + t175.size ≤ 9223372036854775807) = true:=decide_eq_true c25
           try have c25b2 : (9223372036854775807 < (((((((⟨#[72,84,84,80,47,49,46,49,32]⟩ : ByteArray) ++ t172) ++ (⟨#[32]⟩ : ByteArray)) ++ t173) ++ (⟨#[13,10]⟩ : ByteArray)) ++ (((⟨#[76,111,99,97,116,105,111,110,58,32]⟩ : ByteArray) ++ a1) ++ (⟨#[13,10]⟩ : ByteArray))) ++ (⟨#[67,111,110,116,101,110,116,45,76,101,110,103,116,104,58,32]⟩ : ByteArray)).size + t175.size) = False:=eq_false (Nat.not_lt.2 c25)
           try have c25b3 : (9223372036854775807 < 9 + t172.size + 1 + t173.size + 2 + (10 + a1.size + 2) + 16 + t175.size) = False:=by rw [← show (((((((⟨#[72,84,84,80,47,49,46,49,32]⟩ : ByteArray) ++ t172) ++ (⟨#[32]⟩ : ByteArray)) ++ t173) ++ (⟨#[13,10]⟩ : ByteArray)) ++ (((⟨#[76,111,99,97,116,105,111,110,58,32]⟩ : ByteArray) ++ a1) ++ (⟨#[13,10]⟩ : ByteArray))) ++ (⟨#[67,111,110,116,101,110,116,45,76,101,110,103,116,104,58,32]⟩ : ByteArray)).size = 9 + t172.size + 1 + t173.size + 2 + (10 + a1.size + 2) + 16 from by (simp only [ByteArray.size_append];rfl)];exact c25b2
           by_cases c26 : ((((((((⟨#[72,84,84,80,47,49,46,49,32]⟩ : ByteArray) ++ t172) ++ (⟨#[32]⟩ : ByteArray)) ++ t173) ++ (⟨#[13,10]⟩ : ByteArray)) ++ (((⟨#[76,111,99,97,116,105,111,110,58,32]⟩ : ByteArray) ++ a1) ++ (⟨#[13,10]⟩ : ByteArray))) ++ (⟨#[67,111,110,116,101,110,116,45,76,101,110,103,116,104,58,32]⟩ : ByteArray)) ++ t175).size + 2 ≤ 9223372036854775807
           ·rw [if_pos c26] at H
            have c26b0:=eq_true c26
            have c26b1 : decide (((((((((⟨#[72,84,84,80,47,49,46,49,32]⟩ : ByteArray) ++ t172) ++ (⟨#[32]⟩ : ByteArray)) ++ t173) ++ (⟨#[13,10]⟩ : ByteArray)) ++ (((⟨#[76,111,99,97,116,105,111,110,58,32]⟩ : ByteArray) ++ a1) ++ (⟨#[13,10]⟩ : ByteArray))) ++ (⟨#[67,111,110,116,101,110,116,45,76,101,110,103,116,104,58,32]⟩ : ByteArray)) ++ t175).size + 2 ≤ 9223372036854775807) = true:=decide_eq_true c26
            try have c26b2 : (9223372036854775807 < ((((((((⟨#[72,84,84,80,47,49,46,49,32]⟩ : ByteArray) ++ t172) ++ (⟨#[32]⟩ : ByteArray)) ++ t173) ++ (⟨#[13,10]⟩ : ByteArray)) ++ (((⟨#[76,111,99,97,116,105,111,110,58,32]⟩ : ByteArray) ++ a1) ++ (⟨#[13,10]⟩ : ByteArray))) ++ (⟨#[67,111,110,116,101,110,116,45,76,101,110,103,116,104,58,32]⟩ : ByteArray)) ++ t175).size + 2) = False:=eq_false (Nat.not_lt.2 c26)
            try have c26b3 : (9223372036854775807 < 9 + t172.size + 1 + t173.size + 2 + (10 + a1.size + 2) + 16 + t175.size + 2) = False:=by rw [← show ((((((((⟨#[72,84,84,80,47,49,46,49,32]⟩ : ByteArray) ++ t172) ++ (⟨#[32]⟩ : ByteArray)) ++ t173) ++ (⟨#[13,10]⟩ : ByteArray)) ++ (((⟨#[76,111,99,97,116,105,111,110,58,32]⟩ : ByteArray) ++ a1) ++ (⟨#[13,10]⟩ : ByteArray))) ++ (⟨#[67,111,110,116,101,110,116,45,76,101,110,103,116,104,58,32]⟩ : ByteArray)) ++ t175).size = 9 + t172.size + 1 + t173.size + 2 + (10 + a1.size + 2) + 16 + t175.size from by (simp only [ByteArray.size_append];rfl)];exact c26b2
            by_cases c27 : (((((((((⟨#[72,84,84,80,47,49,46,49,32]⟩ : ByteArray) ++ t172) ++ (⟨#[32]⟩ : ByteArray)) ++ t173) ++ (⟨#[13,10]⟩ : ByteArray)) ++ (((⟨#[76,111,99,97,116,105,111,110,58,32]⟩ : ByteArray) ++ a1) ++ (⟨#[13,10]⟩ : ByteArray))) ++ (⟨#[67,111,110,116,101,110,116,45,76,101,110,103,116,104,58,32]⟩ : ByteArray)) ++ t175) ++ (⟨#[13,10]⟩ : ByteArray)).size + 17 ≤ 9223372036854775807
            ·rw [if_pos c27] at H
             have c27b0:=eq_true c27
             have c27b1 : decide ((((((((((⟨#[72,84,84,80,47,49,46,49,32]⟩ : ByteArray) ++ t172) ++ (⟨#[32]⟩ : ByteArray)) ++ t173) ++ (⟨#[13,10]⟩ : ByteArray)) ++ (((⟨#[76,111,99,97,116,105,111,110,58,32]⟩ : ByteArray) ++ a1) ++ (⟨#[13,10]⟩ : ByteArray))) ++ (⟨#[67,111,110,116,101,110,116,45,76,101,110,103,116,104,58,32]⟩ : ByteArray)) ++ t175) ++ (⟨#[13,10]⟩ : ByteArray)).size + 17 ≤ 9223372036854775807) = true:=decide_eq_true c27
             try have c27b2 : (9223372036854775807 < (((((((((⟨#[72,84,84,80,47,49,46,49,32]⟩ : ByteArray) ++ t172) ++ (⟨#[32]⟩ : ByteArray)) ++ t173) ++ (⟨#[13,10]⟩ : ByteArray)) ++ (((⟨#[76,111,99,97,116,105,111,110,58,32]⟩ : ByteArray) ++ a1) ++ (⟨#[13,10]⟩ : ByteArray))) ++ (⟨#[67,111,110,116,101,110,116,45,76,101,110,103,116,104,58,32]⟩ : ByteArray)) ++ t175) ++ (⟨#[13,10]⟩ : ByteArray)).size + 17) = False:=eq_false (Nat.not_lt.2 c27)
             try have c27b3 : (9223372036854775807 < 9 + t172.size + 1 + t173.size + 2 + (10 + a1.size + 2) + 16 + t175.size + 2 + 17) = False:=by rw [← show (((((((((⟨#[72,84,84,80,47,49,46,49,32]⟩ : ByteArray) ++ t172) ++ (⟨#[32]⟩ : ByteArray)) ++ t173) ++ (⟨#[13,10]⟩ : ByteArray)) ++ (((⟨#[76,111,99,97,116,105,111,110,58,32]⟩ : ByteArray) ++ a1) ++ (⟨#[13,10]⟩ : ByteArray))) ++ (⟨#[67,111,110,116,101,110,116,45,76,101,110,103,116,104,58,32]⟩ : ByteArray)) ++ t175) ++ (⟨#[13,10]⟩ : ByteArray)).size = 9 + t172.size + 1 + t173.size + 2 + (10 + a1.size + 2) + 16 + t175.size + 2 from by (simp only [ByteArray.size_append];rfl)];exact c27b2
             by_cases c28 : ((((((((((⟨#[72,84,84,80,47,49,46,49,32]⟩ : ByteArray) ++ t172) ++ (⟨#[32]⟩ : ByteArray)) ++ t173) ++ (⟨#[13,10]⟩ : ByteArray)) ++ (((⟨#[76,111,99,97,116,105,111,110,58,32]⟩ : ByteArray) ++ a1) ++ (⟨#[13,10]⟩ : ByteArray))) ++ (⟨#[67,111,110,116,101,110,116,45,76,101,110,103,116,104,58,32]⟩ : ByteArray)) ++ t175) ++ (⟨#[13,10]⟩ : ByteArray)) ++ (⟨#[67,111,110,110,101,99,116,105,111,110,58,32,99,108,111,115,101]⟩ : ByteArray)).size + 4 ≤ 9223372036854775807
             ·rw [if_pos c28] at H
              have c28b0:=eq_true c28
              have c28b1 : decide (((((((((((⟨#[72,84,84,80,47,49,46,49,32]⟩ : ByteArray) ++ t172) ++ (⟨#[32]⟩ : ByteArray)) ++ t173) ++ (⟨#[13,10]⟩ : ByteArray)) ++ (((⟨#[76,111,99,97,116,105,111,110,58,32]⟩ : ByteArray) ++ a1) ++ (⟨#[13,10]⟩ : ByteArray))) ++ (⟨#[67,111,110,116,101,110,116,45,76,101,110,103,116,104,58,32]⟩ : ByteArray)) ++ t175) ++ (⟨#[13,10]⟩ : ByteArray)) ++ (⟨#[67,111,110,110,101,99,116,105,111,110,58,32,99,108,111,115,101]⟩ : ByteArray)).size + 4 ≤ 9223372036854775807) = true:=decide_eq_true c28
              try have c28b2 : (9223372036854775807 < ((((((((((⟨#[72,84,84,80,47,49,46,49,32]⟩ : ByteArray) ++ t172) ++ (⟨#[32]⟩ : ByteArray)) ++ t173) ++ (⟨#[13,10]⟩ : ByteArray)) ++ (((⟨#[76,111,99,97,116,105,111,110,58,32]⟩ : ByteArray) ++ a1) ++ (⟨#[13,10]⟩ : ByteArray))) ++ (⟨#[67,111,110,116,101,110,116,45,76,101,110,103,116,104,58,32]⟩ : ByteArray)) ++ t175) ++ (⟨#[13,10]⟩ : ByteArray)) ++ (⟨#[67,111,110,110,101,99,116,105,111,110,58,32,99,108,111,115,101]⟩ : ByteArray)).size + 4) = False:=eq_false (Nat.not_lt.2 c28)
              try have c28b3 : (9223372036854775807 < 9 + t172.size + 1 + t173.size + 2 + (10 + a1.size + 2) + 16 + t175.size + 2 + 17 + 4) = False:=by rw [← show ((((((((((⟨#[72,84,84,80,47,49,46,49,32]⟩ : ByteArray) ++ t172) ++ (⟨#[32]⟩ : ByteArray)) ++ t173) ++ (⟨#[13,10]⟩ : ByteArray)) ++ (((⟨#[76,111,99,97,116,105,111,110,58,32]⟩ : ByteArray) ++ a1) ++ (⟨#[13,10]⟩ : ByteArray))) ++ (⟨#[67,111,110,116,101,110,116,45,76,101,110,103,116,104,58,32]⟩ : ByteArray)) ++ t175) ++ (⟨#[13,10]⟩ : ByteArray)) ++ (⟨#[67,111,110,110,101,99,116,105,111,110,58,32,99,108,111,115,101]⟩ : ByteArray)).size = 9 + t172.size + 1 + t173.size + 2 + (10 + a1.size + 2) + 16 + t175.size + 2 + 17 from by (simp only [ByteArray.size_append];rfl)];exact c28b2
              by_cases c29 : (((((((((((⟨#[72,84,84,80,47,49,46,49,32]⟩ : ByteArray) ++ t172) ++ (⟨#[32]⟩ : ByteArray)) ++ t173) ++ (⟨#[13,10]⟩ : ByteArray)) ++ (((⟨#[76,111,99,97,116,105,111,110,58,32]⟩ : ByteArray) ++ a1) ++ (⟨#[13,10]⟩ : ByteArray))) ++ (⟨#[67,111,110,116,101,110,116,45,76,101,110,103,116,104,58,32]⟩ : ByteArray)) ++ t175) ++ (⟨#[13,10]⟩ : ByteArray)) ++ (⟨#[67,111,110,110,101,99,116,105,111,110,58,32,99,108,111,115,101]⟩ : ByteArray)) ++ (⟨#[13,10,13,10]⟩ : ByteArray)).size + a2.size ≤ 9223372036854775807
              ·rw [if_pos c29] at H
               have c29b0:=eq_true c29
               have c29b1 : decide ((((((((((((⟨#[72,84,84,80,47,49,46,49,32]⟩ : ByteArray) ++ t172) ++ (⟨#[32]⟩ : ByteArray)) ++ t173) ++ (⟨#[13,10]⟩ : ByteArray)) ++ (((⟨#[76,111,99,97,116,105,111,110,58,32]⟩ : ByteArray) ++ a1) ++ (⟨#[13,10]⟩ : ByteArray))) ++ (⟨#[67,111,110,116,101,110,116,45,76,101,110,103,116,104,58,32]⟩ : ByteArray)) ++ t175) ++ (⟨#[13,10]⟩ : ByteArray)) ++ (⟨#[67,111,110,110,101,99,116,105,111,110,58,32,99,108,111,115,101]⟩ : ByteArray)) ++ (⟨#[13,10,13,10]⟩ : ByteArray)).size + a2.size ≤ 9223372036854775807) = true:=decide_eq_true c29
               try have c29b2 : (9223372036854775807 < (((((((((((⟨#[72,84,84,80,47,49,46,49,32]⟩ : ByteArray) ++ t172) ++ (⟨#[32]⟩ : ByteArray)) ++ t173) ++ (⟨#[13,10]⟩ : ByteArray)) ++ (((⟨#[76,111,99,97,116,105,111,110,58,32]⟩ : ByteArray) ++ a1) ++ (⟨#[13,10]⟩ : ByteArray))) ++ (⟨#[67,111,110,116,101,110,116,45,76,101,110,103,116,104,58,32]⟩ : ByteArray)) ++ t175) ++ (⟨#[13,10]⟩ : ByteArray)) ++ (⟨#[67,111,110,110,101,99,116,105,111,110,58,32,99,108,111,115,101]⟩ : ByteArray)) ++ (⟨#[13,10,13,10]⟩ : ByteArray)).size + a2.size) = False:=eq_false (Nat.not_lt.2 c29)
               try have c29b3 : (9223372036854775807 < 9 + t172.size + 1 + t173.size + 2 + (10 + a1.size + 2) + 16 + t175.size + 2 + 17 + 4 + a2.size) = False:=by rw [← show (((((((((((⟨#[72,84,84,80,47,49,46,49,32]⟩ : ByteArray) ++ t172) ++ (⟨#[32]⟩ : ByteArray)) ++ t173) ++ (⟨#[13,10]⟩ : ByteArray)) ++ (((⟨#[76,111,99,97,116,105,111,110,58,32]⟩ : ByteArray) ++ a1) ++ (⟨#[13,10]⟩ : ByteArray))) ++ (⟨#[67,111,110,116,101,110,116,45,76,101,110,103,116,104,58,32]⟩ : ByteArray)) ++ t175) ++ (⟨#[13,10]⟩ : ByteArray)) ++ (⟨#[67,111,110,110,101,99,116,105,111,110,58,32,99,108,111,115,101]⟩ : ByteArray)) ++ (⟨#[13,10,13,10]⟩ : ByteArray)).size = 9 + t172.size + 1 + t173.size + 2 + (10 + a1.size + 2) + 16 + t175.size + 2 + 17 + 4 from by (simp only [ByteArray.size_append];rfl)];exact c29b2
               obtain rfl:=Option.some.inj H
               go_enter Tryd.func39,Tryd.ntmps39
               go_wp2_with (first|((with_reducible refine gate_callee (f:=58) rfl ?_);refine goesL_ (some 9) rfl rfl Tryd.func58 (by kernel_rfl) rfl #[.int .i64 a0] rfl (by (try simp only [List.map_toArray,List.map_cons,List.map_nil]);first | done | rfl|(simp only [List.length_drop,List.length_take];rfl)) ?_;(with_reducible refine (strconv_Itoa_58.calls a0 t172 _ ?sideGp A4.out).mono ?_);(case sideGp => exact GLp_below HGp_.out (by repeat first|exact HB.out|apply bwA|apply bwN|apply bw1));rintro e w30 ⟨rfl,hb⟩;refine ⟨_,rfl,?_⟩;have n0_:=aMk (below_step (by repeat first|exact HB.out|apply bwA|apply bwN|apply bw1) hb);clear HB;have HB:=n0_;clear n0_;(try clear hb);(try clear hb2);(try clear hk);(try clear hi))|((with_reducible refine gate_callee (f:=27) rfl ?_);refine goesL_ (some 13) rfl rfl Tryd.func27 (by kernel_rfl) rfl #[.int .i64 a0] rfl (by (try simp only [List.map_toArray,List.map_cons,List.map_nil]);first | done | rfl|(simp only [List.length_drop,List.length_take];rfl)) ?_;(with_reducible refine (impl_StatusWord.calls a0 t173 _ A7.out).mono ?_);rintro e w' ⟨rfl,⟨nd,rfl⟩⟩;refine ⟨_,rfl,?_⟩)|((with_reducible refine gate_callee (f:=58) rfl ?_);refine goesL_ (some 27) rfl rfl Tryd.func58 (by kernel_rfl) rfl #[.int .i64 (a2.size : Int)] rfl (by (try simp only [List.map_toArray,List.map_cons,List.map_nil]);first | done | rfl|(simp only [List.length_drop,List.length_take];rfl)) ?_;(with_reducible refine (strconv_Itoa_58.calls (a2.size : Int) t175 _ ?sideGp A24.out).mono ?_);(case sideGp => exact GLp_below HGp_.out (by repeat first|exact HB.out|apply bwA|apply bwN|apply bw1));rintro e w31 ⟨rfl,hb⟩;refine ⟨_,rfl,?_⟩;have n0_:=aMk (below_step (by repeat first|exact HB.out|apply bwA|apply bwN|apply bw1) hb);clear HB;have HB:=n0_;clear n0_;(try clear hb);(try clear hb2);(try clear hk);(try clear hi)))
               go_ret
               exact ⟨by first | rfl|(simp [errW_none,errW_some] <;> rfl)|(simp [*,errW_none,errW_some] <;> rfl),by repeat (first|(with_reducible first|exact HB.out|apply bwA|apply bwN|apply bw1)|exact HB.out)⟩
              ·rw [if_neg c29] at H
               exact absurd H (by simp)
             ·rw [if_neg c28] at H
              exact absurd H (by simp)
            ·rw [if_neg c27] at H
             exact absurd H (by simp)
           ·rw [if_neg c26] at H
            exact absurd H (by simp)
          ·rw [if_neg c25] at H
           exact absurd H (by simp)
         ·rw [if_neg c23] at H
          exact absurd H (by simp)
        ·rw [if_neg c22] at H
         exact absurd H (by simp)
       ·rw [if_neg c21] at H
        exact absurd H (by simp)
      ·rw [if_neg c20] at H
       exact absurd H (by simp)
    ·rw [if_neg c9] at H
     exact absurd H (by simp)
   ·rw [if_neg c8] at H
    exact absurd H (by simp)
  ·rw [if_neg c6] at H
   exact absurd H (by simp)
 ·rw [if_neg c5] at H
  exact absurd H (by simp)
end
section
/-! ### impl_PageText: function 13 -/
def impl_PageText.j0 : Nat → Int → ByteArray → ByteArray → Bool → Option (ByteArray × Int)
 | 0,_,_,_,_ => none
 | k + 1,x0,x1,x2,x8 => if x8 = true then (some ((⟨#[]⟩ : ByteArray),2)) else ((impl_StatusWord.f x0).bind fun t176 => (if t176.toList = ([] : List UInt8) then (some ((⟨#[]⟩ : ByteArray),4)) else (if x1.toList = ([] : List UInt8) then (if (x2.size : Int) > 100 then (some ((⟨#[]⟩ : ByteArray),4)) else ((impl_page.f x0 x1 x2).bind fun t177 => (some (t177,0)))) else ((impl_pathOK.f k x1).bind fun t178 => (if t178 = true then (if (x2.size : Int) > 100 then (some ((⟨#[]⟩ : ByteArray),4)) else ((impl_page.f x0 x1 x2).bind fun t179 => (some (t179,0)))) else (some ((⟨#[]⟩ : ByteArray),4)))))))
def impl_PageText.f (k : Nat) (a0 : Int) (a1 : ByteArray) (a2 : ByteArray) : Option (ByteArray × Int):=if (a1.size : Int) > 65536 then (impl_PageText.j0 k a0 a1 a2 true) else (impl_PageText.j0 k a0 a1 a2 (decide ((a2.size : Int) > 65536)))
theorem impl_PageText.mono_l : ∀ k,(∀ y0 y1 y2 y3,LeO (impl_PageText.j0 k y0 y1 y2 y3) (impl_PageText.j0 (k + 1) y0 y1 y2 y3))
 | 0 => fun _ _ _ _ r h => by simp [impl_PageText.j0] at h
 | k + 1 => by
  have ih0:=impl_PageText.mono_l k
  ·intro y0 y1 y2 y3
   unfold impl_PageText.j0
   repeat' first
   | (with_reducible exact ih0 _ _ _ _)
   | (with_reducible exact impl_pathOK.mono ..)
   | (with_reducible exact LeO.refl _)
   | (with_reducible exact LeO.none _)
   | (with_reducible refine LeO.ite ?_ ?_)
   | (with_reducible refine LeO.bind ?_ (fun _ => ?_))
   | exact ih0 _ _ _ _
   | exact impl_pathOK.mono ..
   | exact LeO.none _
   | refine LeO.ite ?_ ?_
   | refine LeO.bind ?_ (fun _ => ?_)
theorem impl_PageText.mono : ∀ a0 a1 a2 k,LeO (impl_PageText.f k a0 a1 a2) (impl_PageText.f (k + 1) a0 a1 a2):=by
 intro a0 a1 a2 k
 have ih0:=impl_PageText.mono_l k
 unfold impl_PageText.f
 repeat' first
   | (with_reducible exact ih0 _ _ _ _)
   | (with_reducible exact impl_pathOK.mono ..)
   | (with_reducible exact LeO.refl _)
   | (with_reducible exact LeO.none _)
   | (with_reducible refine LeO.ite ?_ ?_)
   | (with_reducible refine LeO.bind ?_ (fun _ => ?_))
   | exact ih0 _ _ _ _
   | exact impl_pathOK.mono ..
   | exact LeO.none _
   | refine LeO.ite ?_ ?_
   | refine LeO.bind ?_ (fun _ => ?_)
set_option maxHeartbeats 8000000 in
set_option maxRecDepth 100000 in
theorem impl_PageText.calls (k : Nat) (a0 : Int) (a1 : ByteArray) (a2 : ByteArray) (r1 : ByteArray) (r2 : Int) (w : World) (hGp : GLp w) (h : impl_PageText.f k a0 a1 a2 = some (r1,r2)) :
  Calls Tryd.prog 13 #[.int .i64 a0,.string a1,.string a2] w fun e w' => e = .returned (.tuple #[.string r1,.int .i64 r2]) ∧ Below w.heap.size w w':=by
 have HGp_:=aMk hGp
 clear hGp
 have HB:=aMk (Below.refl w.heap.size w)
 have H : (if (a1.size : Int) > 65536 then (impl_PageText.j0 k a0 a1 a2 true) else (impl_PageText.j0 k a0 a1 a2 (decide ((a2.size : Int) > 65536)))) = some (r1,r2):=h
 clear h
 have HC4:=aMk H
 clear H
 go_enter Tryd.func13,Tryd.ntmps13
 go_upto_region 1 with (fail)
 go_cut [8] (fun v8 wc => ∃ (kq : Nat) (x8_3 : Bool),v8 = .bool x8_3 ∧ Aside0 (impl_PageText.j0 kq a0 a1 a2 x8_3 = some (r1,r2)) ∧ Aside0 (kq ≤ k) ∧ Aside0 (Below w.heap.size w wc))
 case first =>
  have H:=HC4.out
  clear HC4
  by_cases c5 : (a1.size : Int) > 65536
  ·rw [if_pos c5] at H
   have c5b0 : decide (65536 < (a1.size : Int)) = true:=decide_eq_true c5
   have c5b1 : decide (65536 < a1.size) = true:=decide_eq_true (by omega)
   clear c5
   (first|rw [c5b0]|(simp only [i64_w,i32_w];rw [c5b0]) | skip)
   have H':=aMk H
   clear H
   go_wp2
   go_meet
   case rel => exact ⟨_,(true),(by first | rfl|(simp;done)|(simp [*];done)|(simp [ne_nil_b];done)|(simp [ne_nil_b, *];done)),H',⟨by first | omega|exact Nat.le_refl _⟩,⟨by repeat (first|(with_reducible first|exact HB.out|apply bwA|apply bwN|apply bw1)|exact HB.out)⟩⟩
  ·rw [if_neg c5] at H
   have c5b0 : decide (65536 < (a1.size : Int)) = false:=decide_eq_false c5
   have c5b1 : decide (65536 < a1.size) = false:=decide_eq_false (by omega)
   clear c5
   (first|rw [c5b0]|(simp only [i64_w,i32_w];rw [c5b0]) | skip)
   have H':=aMk H
   clear H
   go_wp2
   go_meet
   case rel => exact ⟨_,(decide ((a2.size : Int) > 65536)),(by first | rfl|(simp;done)|(simp [*];done)|(simp [ne_nil_b];done)|(simp [ne_nil_b, *];done)),H',⟨by first | omega|exact Nat.le_refl _⟩,⟨by repeat (first|(with_reducible first|exact HB.out|apply bwA|apply bwN|apply bw1)|exact HB.out)⟩⟩
 case rest =>
  clear HC4
  try clear c1
  try clear p2
  try clear c5
  try clear c5b0
  try clear c5b1
  obtain ⟨kq,x8_3,rfl,HA,HJ3,HB⟩:=hcut
  cases kq with
  | zero => exact absurd HA.out (by simp [impl_PageText.j0])
  | succ kj3 =>
   have H:=HA.out
   clear HA
   simp only [impl_PageText.j0] at H
   by_cases c6 : x8_3 = true
   ·subst c6
    have H1 : (some ((⟨#[]⟩ : ByteArray),2)) = some (r1,r2):=by rw [if_pos rfl] at H;exact H
    clear H
    have H:=H1
    clear H1
    simp only [Option.some.injEq,Prod.mk.injEq] at H
    obtain ⟨rfl,rfl⟩:=H
    go_wp2
    go_ret2
    exact ⟨by first | rfl|(simp [errW_none,errW_some] <;> rfl)|(simp [*,errW_none,errW_some] <;> rfl),by repeat (first|(with_reducible first|exact HB.out|apply bwA|apply bwN|apply bw1)|exact HB.out)⟩
   ·replace c6:=Bool.eq_false_iff.mpr c6
    subst c6
    have H1 : ((impl_StatusWord.f a0).bind fun t176 => (if t176.toList = ([] : List UInt8) then (some ((⟨#[]⟩ : ByteArray),4)) else (if a1.toList = ([] : List UInt8) then (if (a2.size : Int) > 100 then (some ((⟨#[]⟩ : ByteArray),4)) else ((impl_page.f a0 a1 a2).bind fun t177 => (some (t177,0)))) else ((impl_pathOK.f kj3 a1).bind fun t178 => (if t178 = true then (if (a2.size : Int) > 100 then (some ((⟨#[]⟩ : ByteArray),4)) else ((impl_page.f a0 a1 a2).bind fun t179 => (some (t179,0)))) else (some ((⟨#[]⟩ : ByteArray),4))))))) = some (r1,r2):=by rw [if_neg (show ¬ (false = true) by decide)] at H;exact H
    clear H
    have H:=H1
    clear H1
    replace H:=Option.bind_eq_some_iff.mp H
    obtain ⟨t176,A70,H⟩:=H
    replace H : (if t176.toList = ([] : List UInt8) then (some ((⟨#[]⟩ : ByteArray),4)) else (if a1.toList = ([] : List UInt8) then (if (a2.size : Int) > 100 then (some ((⟨#[]⟩ : ByteArray),4)) else ((impl_page.f a0 a1 a2).bind fun t177 => (some (t177,0)))) else ((impl_pathOK.f kj3 a1).bind fun t178 => (if t178 = true then (if (a2.size : Int) > 100 then (some ((⟨#[]⟩ : ByteArray),4)) else ((impl_page.f a0 a1 a2).bind fun t179 => (some (t179,0)))) else (some ((⟨#[]⟩ : ByteArray),4)))))) = some (r1,r2):=H
    have A7:=aMk A70
    clear A70
    by_cases c8 : t176.toList = ([] : List UInt8)
    ·rw [if_pos c8] at H
     have c8b0 : (t176.toList == ([] : List UInt8)) = true:=beq_iff_eq.mpr c8
     have c8b1 : (t176.toList != ([] : List UInt8)) = false:=bne_eq_false_iff_eq.mpr c8
     clear c8
     simp only [Option.some.injEq,Prod.mk.injEq] at H
     obtain ⟨rfl,rfl⟩:=H
     go_wp2_with (first|((with_reducible refine gate_callee (f:=27) rfl ?_);refine goesL_ (some 19) rfl rfl Tryd.func27 (by kernel_rfl) rfl #[.int .i64 a0] rfl (by (try simp only [List.map_toArray,List.map_cons,List.map_nil]);first | done | rfl|(simp only [List.length_drop,List.length_take];rfl)) ?_;(with_reducible refine (impl_StatusWord.calls a0 t176 _ A7.out).mono ?_);rintro e w' ⟨rfl,⟨nd,rfl⟩⟩;refine ⟨_,rfl,?_⟩))
     go_ret2
     exact ⟨by first | rfl|(simp [errW_none,errW_some] <;> rfl)|(simp [*,errW_none,errW_some] <;> rfl),by repeat (first|(with_reducible first|exact HB.out|apply bwA|apply bwN|apply bw1)|exact HB.out)⟩
    ·rw [if_neg c8] at H
     have c8b0 : (t176.toList == ([] : List UInt8)) = false:=beq_eq_false_iff_ne.mpr c8
     have c8b1 : (t176.toList != ([] : List UInt8)) = true:=bne_iff_ne.mpr c8
     by_cases c9 : a1.toList = ([] : List UInt8)
     ·rw [if_pos c9] at H
      have c9b0 : (a1.toList == ([] : List UInt8)) = true:=beq_iff_eq.mpr c9
      have c9b1 : (a1.toList != ([] : List UInt8)) = false:=bne_eq_false_iff_eq.mpr c9
      clear c9
      by_cases c10 : (a2.size : Int) > 100
      ·rw [if_pos c10] at H
       have c10b0 : decide (100 < (a2.size : Int)) = true:=decide_eq_true c10
       have c10b1 : decide (100 < a2.size) = true:=decide_eq_true (by omega)
       clear c10
       simp only [Option.some.injEq,Prod.mk.injEq] at H
       obtain ⟨rfl,rfl⟩:=H
       go_wp2_with (first|((with_reducible refine gate_callee (f:=27) rfl ?_);refine goesL_ (some 19) rfl rfl Tryd.func27 (by kernel_rfl) rfl #[.int .i64 a0] rfl (by (try simp only [List.map_toArray,List.map_cons,List.map_nil]);first | done | rfl|(simp only [List.length_drop,List.length_take];rfl)) ?_;(with_reducible refine (impl_StatusWord.calls a0 t176 _ A7.out).mono ?_);rintro e w' ⟨rfl,⟨nd,rfl⟩⟩;refine ⟨_,rfl,?_⟩))
       go_ret2
       exact ⟨by first | rfl|(simp [errW_none,errW_some] <;> rfl)|(simp [*,errW_none,errW_some] <;> rfl),by repeat (first|(with_reducible first|exact HB.out|apply bwA|apply bwN|apply bw1)|exact HB.out)⟩
      ·rw [if_neg c10] at H
       have c10b0 : decide (100 < (a2.size : Int)) = false:=decide_eq_false c10
       have c10b1 : decide (100 < a2.size) = false:=decide_eq_false (by omega)
       clear c10
       replace H:=Option.bind_eq_some_iff.mp H
       obtain ⟨t177,A110,H⟩:=H
       replace H : (some (t177,0)) = some (r1,r2):=H
       have A11:=aMk A110
       clear A110
       simp only [Option.some.injEq,Prod.mk.injEq] at H
       obtain ⟨rfl,rfl⟩:=H
       go_wp2_with (first|((with_reducible refine gate_callee (f:=27) rfl ?_);refine goesL_ (some 19) rfl rfl Tryd.func27 (by kernel_rfl) rfl #[.int .i64 a0] rfl (by (try simp only [List.map_toArray,List.map_cons,List.map_nil]);first | done | rfl|(simp only [List.length_drop,List.length_take];rfl)) ?_;(with_reducible refine (impl_StatusWord.calls a0 t176 _ A7.out).mono ?_);rintro e w' ⟨rfl,⟨nd,rfl⟩⟩;refine ⟨_,rfl,?_⟩)|((with_reducible refine gate_callee (f:=39) rfl ?_);refine goesL_ (some 38) rfl rfl Tryd.func39 (by kernel_rfl) rfl #[.int .i64 a0,.string a1,.string a2] rfl (by (try simp only [List.map_toArray,List.map_cons,List.map_nil]);first | done | rfl|(simp only [List.length_drop,List.length_take];rfl)) ?_;(with_reducible refine (impl_page.calls a0 a1 a2 t177 _ ?sideGp A11.out).mono ?_);(case sideGp => exact GLp_below HGp_.out (by repeat first|exact HB.out|apply bwA|apply bwN|apply bw1));rintro e w12 ⟨rfl,hb⟩;refine ⟨_,rfl,?_⟩;have n0_:=aMk (below_step (by repeat first|exact HB.out|apply bwA|apply bwN|apply bw1) hb);clear HB;have HB:=n0_;clear n0_;(try clear hb);(try clear hb2);(try clear hk);(try clear hi)))
       go_ret2
       exact ⟨by first | rfl|(simp [errW_none,errW_some] <;> rfl)|(simp [*,errW_none,errW_some] <;> rfl),by repeat (first|(with_reducible first|exact HB.out|apply bwA|apply bwN|apply bw1)|exact HB.out)⟩
     ·rw [if_neg c9] at H
      have c9b0 : (a1.toList == ([] : List UInt8)) = false:=beq_eq_false_iff_ne.mpr c9
      have c9b1 : (a1.toList != ([] : List UInt8)) = true:=bne_iff_ne.mpr c9
      replace H:=Option.bind_eq_some_iff.mp H
      obtain ⟨t178,A130,H⟩:=H
      replace H : (if t178 = true then (if (a2.size : Int) > 100 then (some ((⟨#[]⟩ : ByteArray),4)) else ((impl_page.f a0 a1 a2).bind fun t179 => (some (t179,0)))) else (some ((⟨#[]⟩ : ByteArray),4))) = some (r1,r2):=H
      have A13:=aMk A130
      clear A130
      by_cases c14 : t178 = true
      ·subst c14
       have H1 : (if (a2.size : Int) > 100 then (some ((⟨#[]⟩ : ByteArray),4)) else ((impl_page.f a0 a1 a2).bind fun t179 => (some (t179,0)))) = some (r1,r2):=by rw [if_pos rfl] at H;exact H
       clear H
       have H:=H1
       clear H1
       by_cases c15 : (a2.size : Int) > 100
       ·rw [if_pos c15] at H
        have c15b0 : decide (100 < (a2.size : Int)) = true:=decide_eq_true c15
        have c15b1 : decide (100 < a2.size) = true:=decide_eq_true (by omega)
        clear c15
        simp only [Option.some.injEq,Prod.mk.injEq] at H
        obtain ⟨rfl,rfl⟩:=H
        go_wp2_with (first|((with_reducible refine gate_callee (f:=27) rfl ?_);refine goesL_ (some 19) rfl rfl Tryd.func27 (by kernel_rfl) rfl #[.int .i64 a0] rfl (by (try simp only [List.map_toArray,List.map_cons,List.map_nil]);first | done | rfl|(simp only [List.length_drop,List.length_take];rfl)) ?_;(with_reducible refine (impl_StatusWord.calls a0 t176 _ A7.out).mono ?_);rintro e w' ⟨rfl,⟨nd,rfl⟩⟩;refine ⟨_,rfl,?_⟩)|(go_at_call 38;(with_reducible refine (impl_pathOK.calls kj3 a1 true _ A13.out).mono ?_);rintro e w' ⟨rfl,⟨nd,rfl⟩⟩))
        go_ret2
        exact ⟨by first | rfl|(simp [errW_none,errW_some] <;> rfl)|(simp [*,errW_none,errW_some] <;> rfl),by repeat (first|(with_reducible first|exact HB.out|apply bwA|apply bwN|apply bw1)|exact HB.out)⟩
       ·rw [if_neg c15] at H
        have c15b0 : decide (100 < (a2.size : Int)) = false:=decide_eq_false c15
        have c15b1 : decide (100 < a2.size) = false:=decide_eq_false (by omega)
        clear c15
        replace H:=Option.bind_eq_some_iff.mp H
        obtain ⟨t179,A160,H⟩:=H
        replace H : (some (t179,0)) = some (r1,r2):=H
        have A16:=aMk A160
        clear A160
        simp only [Option.some.injEq,Prod.mk.injEq] at H
        obtain ⟨rfl,rfl⟩:=H
        go_wp2_with (first|((with_reducible refine gate_callee (f:=27) rfl ?_);refine goesL_ (some 19) rfl rfl Tryd.func27 (by kernel_rfl) rfl #[.int .i64 a0] rfl (by (try simp only [List.map_toArray,List.map_cons,List.map_nil]);first | done | rfl|(simp only [List.length_drop,List.length_take];rfl)) ?_;(with_reducible refine (impl_StatusWord.calls a0 t176 _ A7.out).mono ?_);rintro e w' ⟨rfl,⟨nd,rfl⟩⟩;refine ⟨_,rfl,?_⟩)|(go_at_call 38;(with_reducible refine (impl_pathOK.calls kj3 a1 true _ A13.out).mono ?_);rintro e w' ⟨rfl,⟨nd,rfl⟩⟩)|((with_reducible refine gate_callee (f:=39) rfl ?_);refine goesL_ (some 38) rfl rfl Tryd.func39 (by kernel_rfl) rfl #[.int .i64 a0,.string a1,.string a2] rfl (by (try simp only [List.map_toArray,List.map_cons,List.map_nil]);first | done | rfl|(simp only [List.length_drop,List.length_take];rfl)) ?_;(with_reducible refine (impl_page.calls a0 a1 a2 t179 _ ?sideGp A16.out).mono ?_);(case sideGp => exact GLp_below HGp_.out (by repeat first|exact HB.out|apply bwA|apply bwN|apply bw1));rintro e w17 ⟨rfl,hb⟩;refine ⟨_,rfl,?_⟩;have n0_:=aMk (below_step (by repeat first|exact HB.out|apply bwA|apply bwN|apply bw1) hb);clear HB;have HB:=n0_;clear n0_;(try clear hb);(try clear hb2);(try clear hk);(try clear hi)))
        go_ret2
        exact ⟨by first | rfl|(simp [errW_none,errW_some] <;> rfl)|(simp [*,errW_none,errW_some] <;> rfl),by repeat (first|(with_reducible first|exact HB.out|apply bwA|apply bwN|apply bw1)|exact HB.out)⟩
      ·replace c14:=Bool.eq_false_iff.mpr c14
       subst c14
       have H1 : (some ((⟨#[]⟩ : ByteArray),4)) = some (r1,r2):=by rw [if_neg (show ¬ (false = true) by decide)] at H;exact H
       clear H
       have H:=H1
       clear H1
       simp only [Option.some.injEq,Prod.mk.injEq] at H
       obtain ⟨rfl,rfl⟩:=H
       go_wp2_with (first|((with_reducible refine gate_callee (f:=27) rfl ?_);refine goesL_ (some 19) rfl rfl Tryd.func27 (by kernel_rfl) rfl #[.int .i64 a0] rfl (by (try simp only [List.map_toArray,List.map_cons,List.map_nil]);first | done | rfl|(simp only [List.length_drop,List.length_take];rfl)) ?_;(with_reducible refine (impl_StatusWord.calls a0 t176 _ A7.out).mono ?_);rintro e w' ⟨rfl,⟨nd,rfl⟩⟩;refine ⟨_,rfl,?_⟩)|(go_at_call 38;(with_reducible refine (impl_pathOK.calls kj3 a1 false _ A13.out).mono ?_);rintro e w' ⟨rfl,⟨nd,rfl⟩⟩))
       go_ret2
       exact ⟨by first | rfl|(simp [errW_none,errW_some] <;> rfl)|(simp [*,errW_none,errW_some] <;> rfl),by repeat (first|(with_reducible first|exact HB.out|apply bwA|apply bwN|apply bw1)|exact HB.out)⟩
end
section
/-! ### impl_readHex: function 73 -/
def impl_readHex.l0 : Nat → ByteArray → List Int → Int → Option (ByteArray × Bool)
 | 0,_,_,_ => none
 | k + 1,x0,x4,x5 => if (wrap64 (x5 + 1)) < (x0.size : Int) then (if 0 ≤ x5 then (if x5 < (x0.size : Int) then ((strings_IndexByte.f (⟨#[48,49,50,51,52,53,54,55,56,57,97,98,99,100,101,102]⟩ : ByteArray) (bt x0 x5)).bind fun t263 => (if 0 ≤ (wrap64 (x5 + 1)) then ((strings_IndexByte.f (⟨#[48,49,50,51,52,53,54,55,56,57,97,98,99,100,101,102]⟩ : ByteArray) (bt x0 (wrap64 (x5 + 1)))).bind fun t264 => (if t263 < 0 then (some ((⟨#[]⟩ : ByteArray),false)) else (if t264 < 0 then (some ((⟨#[]⟩ : ByteArray),false)) else (if x4.length < 140737488355328 then (impl_readHex.l0 k x0 (x4 ++ [(wrap64 ((wrap64 (16 * t263)) + t264)) % 256]) (wrap64 (x5 + 2))) else (none))))) else (none))) else (none)) else (none)) else (some (strOfNums x4,(((x0.size : Int) % 2) == 0)))
def impl_readHex.f (k : Nat) (a0 : ByteArray) : Option (ByteArray × Bool):=impl_readHex.l0 k a0 (([] : List Int)) 0
theorem impl_readHex.mono_l : ∀ k,(∀ y0 y1 y2,LeO (impl_readHex.l0 k y0 y1 y2) (impl_readHex.l0 (k + 1) y0 y1 y2))
 | 0 => fun _ _ _ r h => by simp [impl_readHex.l0] at h
 | k + 1 => by
  have ih0:=impl_readHex.mono_l k
  ·intro y0 y1 y2
   unfold impl_readHex.l0
   repeat' first
   | (with_reducible exact ih0 _ _ _)
   | (with_reducible exact LeO.refl _)
   | (with_reducible exact LeO.none _)
   | (with_reducible refine LeO.ite ?_ ?_)
   | (with_reducible refine LeO.bind ?_ (fun _ => ?_))
   | exact ih0 _ _ _
   | exact LeO.none _
   | refine LeO.ite ?_ ?_
   | refine LeO.bind ?_ (fun _ => ?_)
theorem impl_readHex.mono : ∀ a0 k,LeO (impl_readHex.f k a0) (impl_readHex.f (k + 1) a0):=by
 intro a0 k
 have ih0:=impl_readHex.mono_l k
 unfold impl_readHex.f
 repeat' first
   | (with_reducible exact ih0 _ _ _)
   | (with_reducible exact LeO.refl _)
   | (with_reducible exact LeO.none _)
   | (with_reducible refine LeO.ite ?_ ?_)
   | (with_reducible refine LeO.bind ?_ (fun _ => ?_))
   | exact ih0 _ _ _
   | exact LeO.none _
   | refine LeO.ite ?_ ?_
   | refine LeO.bind ?_ (fun _ => ?_)
set_option maxHeartbeats 8000000 in
set_option maxRecDepth 100000 in
theorem impl_readHex.calls (k : Nat) (a0 : ByteArray) (r1 : ByteArray) (r2 : Bool) (w : World) (h : impl_readHex.f k a0 = some (r1,r2)) :
  Calls Tryd.prog 73 #[.string a0] w fun e w' => e = .returned (.tuple #[.string r1,.bool r2]) ∧ Below w.heap.size w w':=by
 have HB:=aMk (Below.refl w.heap.size w)
 have H : (impl_readHex.l0 k a0 (([] : List Int)) 0) = some (r1,r2):=h
 clear h
 obtain ⟨y260,hy260⟩ : ∃ y_ : List Int,y_ = (([] : List Int)):=⟨_,rfl⟩
 replace H : (impl_readHex.l0 k a0 y260 0) = some (r1,r2):=by first|(rw [hy260];with_reducible exact H)|(have H2_:=(Option.bind_some _ _).symm.trans H;rw [hy260];with_reducible exact H2_)|(have H2_:=(Option.bind_some _ _).symm.trans H;with_reducible exact H2_) | with_reducible exact H|(rw [hy260];exact H)|exact H
 have Ny260:=aMk hy260
 clear hy260
 have H':=aMk H
 clear H
 go_enter Tryd.func73,Tryd.ntmps73
 go_wp2_with (first|((with_reducible refine gate_dst (N:=8) rfl ?_);refine Kd.R_lit (Kd.int .u8) _ 5 ?hg (N:=8) ?hd (xs:=([] : List Int)) (inner:=[]) (ok:=fun _ => True) (okp:=fun _ => True) ?hr ?hp (fun _ hk => hk) trivial (Below.refl _ _) (Nat.le_refl _) (by simp) ?_;(case hd => rfl);(case hg => rfl);(case hr => first|(go_simp;done)|(go_simp;rfl));(case hp => exact (Reps.none _ _));intro v261 w2 ho3 hb hg_ hnew_;clear hg_ hnew_;(first|rw [← Ny260.out] at ho3|(simp only [Int.reduceToNat] at ho3;rw [← Ny260.out] at ho3));have n0_:=aMk (Kd.R_lower ho3 (below_size (by repeat first|exact HB.out|apply bwA|apply bwN|apply bw1)));have n1_:=aMk (below_step (by repeat first|exact HB.out|apply bwA|apply bwN|apply bw1) hb);clear HB;have HO262:=n0_;have HB:=n1_;clear n0_ n1_;clear hb ho3))
 repeat (go_quiet (first|((with_reducible refine gate_dst (N:=8) rfl ?_);refine Kd.R_lit (Kd.int .u8) _ 5 ?hg (N:=8) ?hd (xs:=([] : List Int)) (inner:=[]) (ok:=fun _ => True) (okp:=fun _ => True) ?hr ?hp (fun _ hk => hk) trivial (Below.refl _ _) (Nat.le_refl _) (by simp) ?_;(case hd => rfl);(case hg => rfl);(case hr => first|(go_simp;done)|(go_simp;rfl));(case hp => exact (Reps.none _ _));intro v261 w2 ho3 hb hg_ hnew_;clear hg_ hnew_;(first|rw [← Ny260.out] at ho3|(simp only [Int.reduceToNat] at ho3;rw [← Ny260.out] at ho3));have n0_:=aMk (Kd.R_lower ho3 (below_size (by repeat first|exact HB.out|apply bwA|apply bwN|apply bw1)));have n1_:=aMk (below_step (by repeat first|exact HB.out|apply bwA|apply bwN|apply bw1) hb);clear HB;have HO262:=n0_;have HB:=n1_;clear n0_ n1_;clear hb ho3));try go_wp2_with (first|((with_reducible refine gate_dst (N:=8) rfl ?_);refine Kd.R_lit (Kd.int .u8) _ 5 ?hg (N:=8) ?hd (xs:=([] : List Int)) (inner:=[]) (ok:=fun _ => True) (okp:=fun _ => True) ?hr ?hp (fun _ hk => hk) trivial (Below.refl _ _) (Nat.le_refl _) (by simp) ?_;(case hd => rfl);(case hg => rfl);(case hr => first|(go_simp;done)|(go_simp;rfl));(case hp => exact (Reps.none _ _));intro v261 w2 ho3 hb hg_ hnew_;clear hg_ hnew_;(first|rw [← Ny260.out] at ho3|(simp only [Int.reduceToNat] at ho3;rw [← Ny260.out] at ho3));have n0_:=aMk (Kd.R_lower ho3 (below_size (by repeat first|exact HB.out|apply bwA|apply bwN|apply bw1)));have n1_:=aMk (below_step (by repeat first|exact HB.out|apply bwA|apply bwN|apply bw1) hb);clear HB;have HO262:=n0_;have HB:=n1_;clear n0_ n1_;clear hb ho3)))
 go_loopg [4,5] k (fun kq v4 v5 w' => ∃ (x4_1 : List Int) (x5_1 : Int),v5 = .int .i64 x5_1 ∧ Aside0 (impl_readHex.l0 kq a0 x4_1 x5_1 = some (r1,r2)) ∧ Aside0 (kq ≤ k) ∧ Aside0 (Kd.R (Kd.int .u8) 5 w' w.heap.size (fun _ => True) v4 x4_1) ∧ Aside0 (Below w.heap.size w w'))
 case atStart => exact ⟨(y260),(0),(by first | rfl|(simp;done)|(simp [*];done)|(simp [ne_nil_b];done)|(simp [ne_nil_b, *];done)),H',⟨Nat.le_refl _⟩,⟨by (with_reducible repeat (first|apply Kd.R_alloc|apply Kd.R_drewN|apply Kd.R_drew));exact HO262.out⟩,⟨by repeat (first|(with_reducible first|exact HB.out|apply bwA|apply bwN|apply bw1)|exact HB.out)⟩⟩
 case round =>
  clear H'
  try clear p2
  obtain ⟨x4_1,x5_1,rfl,HA,HK1,HO_4,HB⟩:=hrel
  cases gk with
  | zero => exact absurd HA.out (by simp [impl_readHex.l0])
  | succ k1 =>
   have H:=HA.out
   clear HA
   simp only [impl_readHex.l0] at H
   by_cases c4 : (wrap64 (x5_1 + 1)) < (a0.size : Int)
   ·rw [if_pos c4] at H
    have c4b0 : decide ((wrap64 (x5_1 + 1)) < (a0.size : Int)) = true:=decide_eq_true c4
    clear c4
    by_cases c5 : 0 ≤ x5_1
    ·rw [if_pos c5] at H
     have c5b0 : decide (0 ≤ x5_1) = true:=decide_eq_true c5
     clear c5
     by_cases c6 : x5_1 < (a0.size : Int)
     ·rw [if_pos c6] at H
      have c6b0 : decide (x5_1 < (a0.size : Int)) = true:=decide_eq_true c6
      clear c6
      replace H:=Option.bind_eq_some_iff.mp H
      obtain ⟨t263,A80,H⟩:=H
      replace H : (if 0 ≤ (wrap64 (x5_1 + 1)) then ((strings_IndexByte.f (⟨#[48,49,50,51,52,53,54,55,56,57,97,98,99,100,101,102]⟩ : ByteArray) (bt a0 (wrap64 (x5_1 + 1)))).bind fun t264 => (if t263 < 0 then (some ((⟨#[]⟩ : ByteArray),false)) else (if t264 < 0 then (some ((⟨#[]⟩ : ByteArray),false)) else (if x4_1.length < 140737488355328 then (impl_readHex.l0 k1 a0 (x4_1 ++ [(wrap64 ((wrap64 (16 * t263)) + t264)) % 256]) (wrap64 (x5_1 + 2))) else (none))))) else (none)) = some (r1,r2):=H
      have A8:=aMk A80
      clear A80
      obtain ⟨ji9,hji9⟩ : ∃ j_ : Int,(wrap64 (x5_1 + 1)) = j_:=⟨_,rfl⟩
      replace H : (if 0 ≤ (ji9) then ((strings_IndexByte.f (⟨#[48,49,50,51,52,53,54,55,56,57,97,98,99,100,101,102]⟩ : ByteArray) (bt a0 (ji9))).bind fun t264 => (if t263 < 0 then (some ((⟨#[]⟩ : ByteArray),false)) else (if t264 < 0 then (some ((⟨#[]⟩ : ByteArray),false)) else (if x4_1.length < 140737488355328 then (impl_readHex.l0 k1 a0 (x4_1 ++ [(wrap64 ((wrap64 (16 * t263)) + t264)) % 256]) (wrap64 (x5_1 + 2))) else (none))))) else (none)) = some (r1,r2):=by first|(rw [hji9] at H;exact H)|(simp only [hji9] at H ⊢;exact H)
      (try rw [hji9] at c4b0)
      (try rw [hji9] at A8)
      have hji9w : (IntKind.i64.wrap (x5_1 + 1)) = ji9:=(i64_w _).trans hji9
      by_cases c10 : 0 ≤ (ji9)
      ·rw [if_pos c10] at H
       have c10b0 : decide (0 ≤ (ji9)) = true:=decide_eq_true c10
       clear c10
       replace H:=Option.bind_eq_some_iff.mp H
       obtain ⟨t264,A120,H⟩:=H
       replace H : (if t263 < 0 then (some ((⟨#[]⟩ : ByteArray),false)) else (if t264 < 0 then (some ((⟨#[]⟩ : ByteArray),false)) else (if x4_1.length < 140737488355328 then (impl_readHex.l0 k1 a0 (x4_1 ++ [(wrap64 ((wrap64 (16 * t263)) + t264)) % 256]) (wrap64 (x5_1 + 2))) else (none)))) = some (r1,r2):=H
       have A12:=aMk A120
       clear A120
       by_cases c13 : t263 < 0
       ·rw [if_pos c13] at H
        have c13b0 : decide (t263 < 0) = true:=decide_eq_true c13
        clear c13
        simp only [Option.some.injEq,Prod.mk.injEq] at H
        obtain ⟨rfl,rfl⟩:=H
        have p7 : 0 ≤ (x5_1 : Int):=of_decide_eq_true (by first|(with_reducible assumption) | assumption)
        have q7 : x5_1 < (a0.size : Int):=of_decide_eq_true (by first|(with_reducible assumption) | assumption)
        have hx7:=bt_at a0 x5_1
        replace p7:=eq_true p7
        replace q7:=eq_true q7
        go_wp2_with (first|(go_at_call 62;(with_reducible refine (strings_IndexByte.calls (⟨#[48,49,50,51,52,53,54,55,56,57,97,98,99,100,101,102]⟩ : ByteArray) (bt a0 x5_1) t263 _ A8.out).mono ?_);rintro e w' ⟨rfl,⟨nd,rfl⟩⟩;(try first|exact ⟨rfl,_,World.drewN_drewN _ _ _⟩|exact ⟨rfl,_,Eq.trans (World.drewN_drewN _ _ _) (congrArg (World.drewN _) (Nat.add_assoc _ _ _))⟩);have p11 : 0 ≤ ((ji9) : Int):=of_decide_eq_true (by first|(with_reducible assumption) | assumption);have q11 : (ji9) < (a0.size : Int):=of_decide_eq_true (by first|(with_reducible assumption) | assumption);have hx11:=bt_at a0 (ji9);replace p11:=eq_true p11;replace q11:=eq_true q11)|(go_at_call 62;(with_reducible refine (strings_IndexByte.calls (⟨#[48,49,50,51,52,53,54,55,56,57,97,98,99,100,101,102]⟩ : ByteArray) (bt a0 (ji9)) t264 _ A12.out).mono ?_);rintro e w' ⟨rfl,⟨nd,rfl⟩⟩;(try first|exact ⟨rfl,_,World.drewN_drewN _ _ _⟩|exact ⟨rfl,_,Eq.trans (World.drewN_drewN _ _ _) (congrArg (World.drewN _) (Nat.add_assoc _ _ _))⟩)))
        repeat (go_quiet (first|(go_at_call 62;(with_reducible refine (strings_IndexByte.calls (⟨#[48,49,50,51,52,53,54,55,56,57,97,98,99,100,101,102]⟩ : ByteArray) (bt a0 x5_1) t263 _ A8.out).mono ?_);rintro e w' ⟨rfl,⟨nd,rfl⟩⟩;(try first|exact ⟨rfl,_,World.drewN_drewN _ _ _⟩|exact ⟨rfl,_,Eq.trans (World.drewN_drewN _ _ _) (congrArg (World.drewN _) (Nat.add_assoc _ _ _))⟩);have p11 : 0 ≤ ((ji9) : Int):=of_decide_eq_true (by first|(with_reducible assumption) | assumption);have q11 : (ji9) < (a0.size : Int):=of_decide_eq_true (by first|(with_reducible assumption) | assumption);have hx11:=bt_at a0 (ji9);replace p11:=eq_true p11;replace q11:=eq_true q11)|(go_at_call 62;(with_reducible refine (strings_IndexByte.calls (⟨#[48,49,50,51,52,53,54,55,56,57,97,98,99,100,101,102]⟩ : ByteArray) (bt a0 (ji9)) t264 _ A12.out).mono ?_);rintro e w' ⟨rfl,⟨nd,rfl⟩⟩;(try first|exact ⟨rfl,_,World.drewN_drewN _ _ _⟩|exact ⟨rfl,_,Eq.trans (World.drewN_drewN _ _ _) (congrArg (World.drewN _) (Nat.add_assoc _ _ _))⟩)));try go_wp2_with (first|(go_at_call 62;(with_reducible refine (strings_IndexByte.calls (⟨#[48,49,50,51,52,53,54,55,56,57,97,98,99,100,101,102]⟩ : ByteArray) (bt a0 x5_1) t263 _ A8.out).mono ?_);rintro e w' ⟨rfl,⟨nd,rfl⟩⟩;(try first|exact ⟨rfl,_,World.drewN_drewN _ _ _⟩|exact ⟨rfl,_,Eq.trans (World.drewN_drewN _ _ _) (congrArg (World.drewN _) (Nat.add_assoc _ _ _))⟩);have p11 : 0 ≤ ((ji9) : Int):=of_decide_eq_true (by first|(with_reducible assumption) | assumption);have q11 : (ji9) < (a0.size : Int):=of_decide_eq_true (by first|(with_reducible assumption) | assumption);have hx11:=bt_at a0 (ji9);replace p11:=eq_true p11;replace q11:=eq_true q11)|(go_at_call 62;(with_reducible refine (strings_IndexByte.calls (⟨#[48,49,50,51,52,53,54,55,56,57,97,98,99,100,101,102]⟩ : ByteArray) (bt a0 (ji9)) t264 _ A12.out).mono ?_);rintro e w' ⟨rfl,⟨nd,rfl⟩⟩;(try first|exact ⟨rfl,_,World.drewN_drewN _ _ _⟩|exact ⟨rfl,_,Eq.trans (World.drewN_drewN _ _ _) (congrArg (World.drewN _) (Nat.add_assoc _ _ _))⟩))))
        go_ret2
        exact ⟨by first | rfl|(simp [errW_none,errW_some] <;> rfl)|(simp only [← hji9];first | rfl|(simp [errW_none,errW_some] <;> rfl))|(simp [*,errW_none,errW_some] <;> rfl),by repeat (first|(with_reducible first|exact HB.out|apply bwA|apply bwN|apply bw1)|exact HB.out)⟩
       ·rw [if_neg c13] at H
        have c13b0 : decide (t263 < 0) = false:=decide_eq_false c13
        clear c13
        by_cases c14 : t264 < 0
        ·rw [if_pos c14] at H
         have c14b0 : decide (t264 < 0) = true:=decide_eq_true c14
         clear c14
         simp only [Option.some.injEq,Prod.mk.injEq] at H
         obtain ⟨rfl,rfl⟩:=H
         have p7 : 0 ≤ (x5_1 : Int):=of_decide_eq_true (by first|(with_reducible assumption) | assumption)
         have q7 : x5_1 < (a0.size : Int):=of_decide_eq_true (by first|(with_reducible assumption) | assumption)
         have hx7:=bt_at a0 x5_1
         replace p7:=eq_true p7
         replace q7:=eq_true q7
         go_wp2_with (first|(go_at_call 62;(with_reducible refine (strings_IndexByte.calls (⟨#[48,49,50,51,52,53,54,55,56,57,97,98,99,100,101,102]⟩ : ByteArray) (bt a0 x5_1) t263 _ A8.out).mono ?_);rintro e w' ⟨rfl,⟨nd,rfl⟩⟩;(try first|exact ⟨rfl,_,World.drewN_drewN _ _ _⟩|exact ⟨rfl,_,Eq.trans (World.drewN_drewN _ _ _) (congrArg (World.drewN _) (Nat.add_assoc _ _ _))⟩);have p11 : 0 ≤ ((ji9) : Int):=of_decide_eq_true (by first|(with_reducible assumption) | assumption);have q11 : (ji9) < (a0.size : Int):=of_decide_eq_true (by first|(with_reducible assumption) | assumption);have hx11:=bt_at a0 (ji9);replace p11:=eq_true p11;replace q11:=eq_true q11)|(go_at_call 62;(with_reducible refine (strings_IndexByte.calls (⟨#[48,49,50,51,52,53,54,55,56,57,97,98,99,100,101,102]⟩ : ByteArray) (bt a0 (ji9)) t264 _ A12.out).mono ?_);rintro e w' ⟨rfl,⟨nd,rfl⟩⟩;(try first|exact ⟨rfl,_,World.drewN_drewN _ _ _⟩|exact ⟨rfl,_,Eq.trans (World.drewN_drewN _ _ _) (congrArg (World.drewN _) (Nat.add_assoc _ _ _))⟩)))
         repeat (go_quiet (first|(go_at_call 62;(with_reducible refine (strings_IndexByte.calls (⟨#[48,49,50,51,52,53,54,55,56,57,97,98,99,100,101,102]⟩ : ByteArray) (bt a0 x5_1) t263 _ A8.out).mono ?_);rintro e w' ⟨rfl,⟨nd,rfl⟩⟩;(try first|exact ⟨rfl,_,World.drewN_drewN _ _ _⟩|exact ⟨rfl,_,Eq.trans (World.drewN_drewN _ _ _) (congrArg (World.drewN _) (Nat.add_assoc _ _ _))⟩);have p11 : 0 ≤ ((ji9) : Int):=of_decide_eq_true (by first|(with_reducible assumption) | assumption);have q11 : (ji9) < (a0.size : Int):=of_decide_eq_true (by first|(with_reducible assumption) | assumption);have hx11:=bt_at a0 (ji9);replace p11:=eq_true p11;replace q11:=eq_true q11)|(go_at_call 62;(with_reducible refine (strings_IndexByte.calls (⟨#[48,49,50,51,52,53,54,55,56,57,97,98,99,100,101,102]⟩ : ByteArray) (bt a0 (ji9)) t264 _ A12.out).mono ?_);rintro e w' ⟨rfl,⟨nd,rfl⟩⟩;(try first|exact ⟨rfl,_,World.drewN_drewN _ _ _⟩|exact ⟨rfl,_,Eq.trans (World.drewN_drewN _ _ _) (congrArg (World.drewN _) (Nat.add_assoc _ _ _))⟩)));try go_wp2_with (first|(go_at_call 62;(with_reducible refine (strings_IndexByte.calls (⟨#[48,49,50,51,52,53,54,55,56,57,97,98,99,100,101,102]⟩ : ByteArray) (bt a0 x5_1) t263 _ A8.out).mono ?_);rintro e w' ⟨rfl,⟨nd,rfl⟩⟩;(try first|exact ⟨rfl,_,World.drewN_drewN _ _ _⟩|exact ⟨rfl,_,Eq.trans (World.drewN_drewN _ _ _) (congrArg (World.drewN _) (Nat.add_assoc _ _ _))⟩);have p11 : 0 ≤ ((ji9) : Int):=of_decide_eq_true (by first|(with_reducible assumption) | assumption);have q11 : (ji9) < (a0.size : Int):=of_decide_eq_true (by first|(with_reducible assumption) | assumption);have hx11:=bt_at a0 (ji9);replace p11:=eq_true p11;replace q11:=eq_true q11)|(go_at_call 62;(with_reducible refine (strings_IndexByte.calls (⟨#[48,49,50,51,52,53,54,55,56,57,97,98,99,100,101,102]⟩ : ByteArray) (bt a0 (ji9)) t264 _ A12.out).mono ?_);rintro e w' ⟨rfl,⟨nd,rfl⟩⟩;(try first|exact ⟨rfl,_,World.drewN_drewN _ _ _⟩|exact ⟨rfl,_,Eq.trans (World.drewN_drewN _ _ _) (congrArg (World.drewN _) (Nat.add_assoc _ _ _))⟩))))
         go_ret2
         exact ⟨by first | rfl|(simp [errW_none,errW_some] <;> rfl)|(simp only [← hji9];first | rfl|(simp [errW_none,errW_some] <;> rfl))|(simp [*,errW_none,errW_some] <;> rfl),by repeat (first|(with_reducible first|exact HB.out|apply bwA|apply bwN|apply bw1)|exact HB.out)⟩
        ·rw [if_neg c14] at H
         have c14b0 : decide (t264 < 0) = false:=decide_eq_false c14
         clear c14
         by_cases c15 : x4_1.length < 140737488355328
         ·rw [if_pos c15] at H
          have LMc15:=aMk c15
          clear c15
          obtain ⟨y265,hy265⟩ : ∃ y_ : List Int,y_ = (x4_1 ++ [(wrap64 ((wrap64 (16 * t263)) + t264)) % 256]):=⟨_,rfl⟩
          replace H : (impl_readHex.l0 k1 a0 y265 (wrap64 (x5_1 + 2))) = some (r1,r2):=by first|(rw [hy265];with_reducible exact H)|(have H2_:=(Option.bind_some _ _).symm.trans H;rw [hy265];with_reducible exact H2_)|(have H2_:=(Option.bind_some _ _).symm.trans H;with_reducible exact H2_) | with_reducible exact H|(rw [hy265];exact H)|exact H
          have Ny265:=aMk hy265
          clear hy265
          have H':=aMk H
          clear H
          have p7 : 0 ≤ (x5_1 : Int):=of_decide_eq_true (by first|(with_reducible assumption) | assumption)
          have q7 : x5_1 < (a0.size : Int):=of_decide_eq_true (by first|(with_reducible assumption) | assumption)
          have hx7:=bt_at a0 x5_1
          replace p7:=eq_true p7
          replace q7:=eq_true q7
          go_wp2_with (first|(go_at_call 62;(with_reducible refine (strings_IndexByte.calls (⟨#[48,49,50,51,52,53,54,55,56,57,97,98,99,100,101,102]⟩ : ByteArray) (bt a0 x5_1) t263 _ A8.out).mono ?_);rintro e w' ⟨rfl,⟨nd,rfl⟩⟩;(try first|exact ⟨rfl,_,World.drewN_drewN _ _ _⟩|exact ⟨rfl,_,Eq.trans (World.drewN_drewN _ _ _) (congrArg (World.drewN _) (Nat.add_assoc _ _ _))⟩);have p11 : 0 ≤ ((ji9) : Int):=of_decide_eq_true (by first|(with_reducible assumption) | assumption);have q11 : (ji9) < (a0.size : Int):=of_decide_eq_true (by first|(with_reducible assumption) | assumption);have hx11:=bt_at a0 (ji9);replace p11:=eq_true p11;replace q11:=eq_true q11)|(go_at_call 62;(with_reducible refine (strings_IndexByte.calls (⟨#[48,49,50,51,52,53,54,55,56,57,97,98,99,100,101,102]⟩ : ByteArray) (bt a0 (ji9)) t264 _ A12.out).mono ?_);rintro e w' ⟨rfl,⟨nd,rfl⟩⟩;(try first|exact ⟨rfl,_,World.drewN_drewN _ _ _⟩|exact ⟨rfl,_,Eq.trans (World.drewN_drewN _ _ _) (congrArg (World.drewN _) (Nat.add_assoc _ _ _))⟩))|((with_reducible refine gate_builtin (b:=.append) (xs:=#[.tmp 31,.tmp 37]) rfl ?_);at_builtin;refine Kd.R_append (Kd.int .u8) (w0:=w) w.heap.size rfl (.tmp 31) (.tmp 37) 38 5 (.int .u8 0) 1 rfl Tryd.underlying38 info5 rfl (by decide) (by omega) u4 x4_1 ((wrap64 ((wrap64 (16 * t263)) + t264)) % 256) [.int .u8 ((wrap64 ((wrap64 (16 * t263)) + t264)) % 256)] (fun _ => True) (fun _ => False) rfl rfl ?aP (fun _ hk => hk.elim) ?aF ?aO ?aB ?aS ?aL ?_;(case aP => exact rfl);(case aB => exact (by repeat first|exact HB.out|apply bwA|apply bwN|apply bw1));(case aF => exact (fun _ _ => trivial));(case aO => exact (by (with_reducible repeat (first|apply Kd.R_alloc|apply Kd.R_drewN|apply Kd.R_drew));exact HO_4.out));(case aS => exact (below_size (by repeat first|exact HB.out|apply bwA|apply bwN|apply bw1)));(case aL => have:=LMc15.out;omega);intro v266 w16 ho hb hg hat;rw [← Ny265.out] at ho;have n0_:=aMk (hb);have n1_:=aMk (ho);clear HB;clear HO_4;have HB:=n0_;have HO267:=n1_;clear n0_ n1_;clear ho hb hg hat))
          repeat (go_quiet (first|(go_at_call 62;(with_reducible refine (strings_IndexByte.calls (⟨#[48,49,50,51,52,53,54,55,56,57,97,98,99,100,101,102]⟩ : ByteArray) (bt a0 x5_1) t263 _ A8.out).mono ?_);rintro e w' ⟨rfl,⟨nd,rfl⟩⟩;(try first|exact ⟨rfl,_,World.drewN_drewN _ _ _⟩|exact ⟨rfl,_,Eq.trans (World.drewN_drewN _ _ _) (congrArg (World.drewN _) (Nat.add_assoc _ _ _))⟩);have p11 : 0 ≤ ((ji9) : Int):=of_decide_eq_true (by first|(with_reducible assumption) | assumption);have q11 : (ji9) < (a0.size : Int):=of_decide_eq_true (by first|(with_reducible assumption) | assumption);have hx11:=bt_at a0 (ji9);replace p11:=eq_true p11;replace q11:=eq_true q11)|(go_at_call 62;(with_reducible refine (strings_IndexByte.calls (⟨#[48,49,50,51,52,53,54,55,56,57,97,98,99,100,101,102]⟩ : ByteArray) (bt a0 (ji9)) t264 _ A12.out).mono ?_);rintro e w' ⟨rfl,⟨nd,rfl⟩⟩;(try first|exact ⟨rfl,_,World.drewN_drewN _ _ _⟩|exact ⟨rfl,_,Eq.trans (World.drewN_drewN _ _ _) (congrArg (World.drewN _) (Nat.add_assoc _ _ _))⟩))|((with_reducible refine gate_builtin (b:=.append) (xs:=#[.tmp 31,.tmp 37]) rfl ?_);at_builtin;refine Kd.R_append (Kd.int .u8) (w0:=w) w.heap.size rfl (.tmp 31) (.tmp 37) 38 5 (.int .u8 0) 1 rfl Tryd.underlying38 info5 rfl (by decide) (by omega) u4 x4_1 ((wrap64 ((wrap64 (16 * t263)) + t264)) % 256) [.int .u8 ((wrap64 ((wrap64 (16 * t263)) + t264)) % 256)] (fun _ => True) (fun _ => False) rfl rfl ?aP (fun _ hk => hk.elim) ?aF ?aO ?aB ?aS ?aL ?_;(case aP => exact rfl);(case aB => exact (by repeat first|exact HB.out|apply bwA|apply bwN|apply bw1));(case aF => exact (fun _ _ => trivial));(case aO => exact (by (with_reducible repeat (first|apply Kd.R_alloc|apply Kd.R_drewN|apply Kd.R_drew));exact HO_4.out));(case aS => exact (below_size (by repeat first|exact HB.out|apply bwA|apply bwN|apply bw1)));(case aL => have:=LMc15.out;omega);intro v266 w16 ho hb hg hat;rw [← Ny265.out] at ho;have n0_:=aMk (hb);have n1_:=aMk (ho);clear HB;clear HO_4;have HB:=n0_;have HO267:=n1_;clear n0_ n1_;clear ho hb hg hat));try go_wp2_with (first|(go_at_call 62;(with_reducible refine (strings_IndexByte.calls (⟨#[48,49,50,51,52,53,54,55,56,57,97,98,99,100,101,102]⟩ : ByteArray) (bt a0 x5_1) t263 _ A8.out).mono ?_);rintro e w' ⟨rfl,⟨nd,rfl⟩⟩;(try first|exact ⟨rfl,_,World.drewN_drewN _ _ _⟩|exact ⟨rfl,_,Eq.trans (World.drewN_drewN _ _ _) (congrArg (World.drewN _) (Nat.add_assoc _ _ _))⟩);have p11 : 0 ≤ ((ji9) : Int):=of_decide_eq_true (by first|(with_reducible assumption) | assumption);have q11 : (ji9) < (a0.size : Int):=of_decide_eq_true (by first|(with_reducible assumption) | assumption);have hx11:=bt_at a0 (ji9);replace p11:=eq_true p11;replace q11:=eq_true q11)|(go_at_call 62;(with_reducible refine (strings_IndexByte.calls (⟨#[48,49,50,51,52,53,54,55,56,57,97,98,99,100,101,102]⟩ : ByteArray) (bt a0 (ji9)) t264 _ A12.out).mono ?_);rintro e w' ⟨rfl,⟨nd,rfl⟩⟩;(try first|exact ⟨rfl,_,World.drewN_drewN _ _ _⟩|exact ⟨rfl,_,Eq.trans (World.drewN_drewN _ _ _) (congrArg (World.drewN _) (Nat.add_assoc _ _ _))⟩))|((with_reducible refine gate_builtin (b:=.append) (xs:=#[.tmp 31,.tmp 37]) rfl ?_);at_builtin;refine Kd.R_append (Kd.int .u8) (w0:=w) w.heap.size rfl (.tmp 31) (.tmp 37) 38 5 (.int .u8 0) 1 rfl Tryd.underlying38 info5 rfl (by decide) (by omega) u4 x4_1 ((wrap64 ((wrap64 (16 * t263)) + t264)) % 256) [.int .u8 ((wrap64 ((wrap64 (16 * t263)) + t264)) % 256)] (fun _ => True) (fun _ => False) rfl rfl ?aP (fun _ hk => hk.elim) ?aF ?aO ?aB ?aS ?aL ?_;(case aP => exact rfl);(case aB => exact (by repeat first|exact HB.out|apply bwA|apply bwN|apply bw1));(case aF => exact (fun _ _ => trivial));(case aO => exact (by (with_reducible repeat (first|apply Kd.R_alloc|apply Kd.R_drewN|apply Kd.R_drew));exact HO_4.out));(case aS => exact (below_size (by repeat first|exact HB.out|apply bwA|apply bwN|apply bw1)));(case aL => have:=LMc15.out;omega);intro v266 w16 ho hb hg hat;rw [← Ny265.out] at ho;have n0_:=aMk (hb);have n1_:=aMk (ho);clear HB;clear HO_4;have HB:=n0_;have HO267:=n1_;clear n0_ n1_;clear ho hb hg hat)))
          go_roundg k1
          case measure => have:=HK1.out;omega
          case rel => exact ⟨(y265),(wrap64 (x5_1 + 2)),(by first | rfl|(simp;done)|(simp [*];done)|(simp [ne_nil_b];done)|(simp [ne_nil_b, *];done)),H',⟨by have:=HK1.out;omega⟩,⟨by (with_reducible repeat (first|apply Kd.R_alloc|apply Kd.R_drewN|apply Kd.R_drew));exact HO267.out⟩,⟨by repeat (first|(with_reducible first|exact HB.out|apply bwA|apply bwN|apply bw1)|exact HB.out)⟩⟩
         ·rw [if_neg c15] at H
          exact absurd H (by simp)
      ·rw [if_neg c10] at H
       exact absurd H (by simp)
     ·rw [if_neg c6] at H
      exact absurd H (by simp)
    ·rw [if_neg c5] at H
     exact absurd H (by simp)
   ·rw [if_neg c4] at H
    have c4b0 : decide ((wrap64 (x5_1 + 1)) < (a0.size : Int)) = false:=decide_eq_false c4
    clear c4
    simp only [Option.some.injEq,Prod.mk.injEq] at H
    obtain ⟨rfl,rfl⟩:=H
    have hcv17:=own_string (P:=Tryd.prog) Tryd.underlying38 Tryd.underlying5 Tryd.underlying9 (Kd.own_of_R HO_4.out)
    go_wp2
    repeat (go_quiet (fail);try go_wp2)
    go_ret2
    exact ⟨by first | rfl|(simp [errW_none,errW_some] <;> rfl)|(simp [*,errW_none,errW_some] <;> rfl),by repeat (first|(with_reducible first|exact HB.out|apply bwA|apply bwN|apply bw1)|exact HB.out)⟩
end
end Go.Proofs.YticjbpkgdbacpaaDoor.X
