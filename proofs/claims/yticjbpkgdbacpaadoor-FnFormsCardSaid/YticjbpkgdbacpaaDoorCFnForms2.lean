/- Texts that the row of FnForms stands on: functions of the program and of the reference, each as a Lean function with the same answers, and the plain lemmas. Conditions: none beside those that each theorem names. -/
import Derived.Test.YticjbpkgdbacpaaDoorCFnForms1
namespace Go.Proofs.YticjbpkgdbacpaaDoor.X
open Go.RowKit Go.Proofs.YticjbpkgdbacpaaDoorW.PrintWords Go.Proofs.YticjbpkgdbacpaaDoorW.PrintLast Go.Proofs.YticjbpkgdbacpaaDoorW.PrintMore
attribute [local go_sem] max2_int min2_int max_two min_two max_three min_three max_four min_four   -- for this text's walks alone
set_option linter.unusedVariables false
set_option linter.unusedSimpArgs false
open Go.Proofs.YticjbpkgdbacpaaDoorW.PrintWords renaming blk_drewN -> bDn
open Go.Proofs.YticjbpkgdbacpaaDoorW.PrintWords renaming blk_drew -> bDr
open Go.Proofs.YticjbpkgdbacpaaDoorW.PrintWords renaming blk_alloc -> bAl
open Go.Proofs.YticjbpkgdbacpaaDoorW.PrintWords renaming blk_frozen -> bFr
open Go.Proofs.YticjbpkgdbacpaaDoorW.PrintWords renaming blk_cell -> bCe
open Go.Proofs.YticjbpkgdbacpaaDoorW.PrintWords.Aside0 renaming mk -> aMk
open Go.World renaming block_lt_of_cell? -> wLt
open Go.Proofs.YticjbpkgdbacpaaDoorW.PrintWords renaming pw_below_drewN -> bwN
open Go.Proofs.YticjbpkgdbacpaaDoorW.PrintWords renaming below_drew1 -> bw1
open Go.Proofs.YticjbpkgdbacpaaDoorW.PrintWords renaming below_alloc -> bwA
section
/-! ### impl_lower: function 74 -/
-- IMPORT Derived.Lib.ConvBytes
def lowB (c : Int) : Int:=if c ≥ 65 ∧ c ≤ 90 then (c + 32) % 256 else c
/-- A row that a conversion of a string made: its cells,each a byte. -/
structure ByRow (w : World) (base g : Nat) (n cap : Nat) (xs : List Int) : Prop where
 len : xs.length = n
 ge : base ≤ g
 at_ : ∃ cells : Array Value,w.heap[g]? = some (.cells cells 5 (cells.size,cells.size + 1)) ∧ cells.size = cap ∧ n ≤ cap ∧ ∀ (j : Nat) (x : Int),xs[j]? = some x → cells[j]? = some (Value.int .u8 x)
theorem ByRow.cell {w : World} {base g n cap : Nat} {xs : List Int} (h : ByRow w base g n cap xs) (i : Int) (h0 : 0 ≤ i) (h1 : i < n) : w.cell? ⟨g,i.toNat,none⟩ = some (.int .u8 (xs.getD i.toNat 0)):=by
 obtain ⟨cells,hh,hs,hn,hc⟩:=h.at_
 have hl:=h.len
 have hi : i.toNat < xs.length:=by omega
 rw [cell_of_row w g _ cells 5 _ hh]
 exact hc _ _ (by rw [List.getElem?_eq_getElem hi,List.getD_eq_getElem?_getD,List.getElem?_eq_getElem hi];rfl)
theorem ByRow.froz {w : World} {base g n cap : Nat} {xs : List Int} (h : ByRow w base g n cap xs) (i : Int) (h0 : 0 ≤ i) (h1 : i < n) : w.frozen? ⟨g,i.toNat,none⟩ = false:=by
 obtain ⟨cells,hh,hs,hn,hc⟩:=h.at_
 simp [World.frozen?,hh]
 omega
theorem ByRow.set {w : World} {base g n cap : Nat} {xs : List Int} (h : ByRow w base g n cap xs) (i : Nat) (x : Int) : ByRow (w.setCell ⟨g,i,none⟩ (.int .u8 x)) base g n cap (xs.set i x):=by
 obtain ⟨hl,hg,cells,hh,hs,hn,hc⟩:=h
 refine ⟨by simpa using hl,hg,cells.setIfInBounds i (.int .u8 x),?_,by simpa using hs,hn,fun j y hy => ?_⟩
 ·simp only [World.setCell,Array.getElem?_modify,if_true,hh]
  simp
 ·rw [List.getElem?_set] at hy
  rw [Array.getElem?_setIfInBounds]
  split
  ·rename_i he
   rw [if_pos he] at hy
   have hz:=hc j (xs.getD j 0)
   split at hy
   ·rename_i hlt
    rw [if_pos (by omega)]
    injection hy with hy
    rw [hy]
   ·cases hy
  ·rename_i he
   rw [if_neg he] at hy
   exact hc j y hy
theorem ByRow.back {w : World} {base g n cap : Nat} {xs : List Int} (h : ByRow w base g n cap xs) : (convert 38 9 (.slice (some ⟨g,0,none⟩) n cap)).run Tryd.prog w = .ok (.string (strOfNums xs)) w:=by
 refine run_convert_bytes_arg w 38 5 Tryd.underlying38 Tryd.underlying5 g 0 n cap xs h.len (fun i hi => ?_) 9 Tryd.underlying9
 have:=h.cell (i : Int) (by omega) (by omega)
 rw [Int.toNat_natCast] at this
 rw [Nat.zero_add]
 exact this
def impl_lower.f (a0 : ByteArray) : Option ByteArray:=if a0.size ≤ 140737488355328 then some (strOfNums ((bytesOf a0).map lowB)) else none
def lowAt (s : ByteArray) (i : Nat) : List Int:=(((bytesOf s).take i).map lowB) ++ (bytesOf s).drop i
theorem lowAt_len (s : ByteArray) (i : Nat) : (lowAt s i).length = s.size:=by
 unfold lowAt
 rw [List.length_append,List.length_map,List.length_take,List.length_drop,bytesOf_length]
 omega
theorem lowAt_get (s : ByteArray) (i : Nat) (hi : i < s.size) : (lowAt s i).getD i 0 = (bytesOf s).getD i 0:=by
 unfold lowAt
 have hl:=bytesOf_length s
 rw [List.getD_eq_getElem?_getD,List.getD_eq_getElem?_getD,List.getElem?_append_right (by simp;omega)]
 simp only [List.length_map,List.length_take,List.getElem?_drop]
 congr 2
 omega
theorem lowAt_succ (s : ByteArray) (i : Nat) (hi : i < s.size) : (lowAt s i).set i (lowB ((bytesOf s).getD i 0)) = lowAt s (i + 1):=by
 unfold lowAt
 have hl:=bytesOf_length s
 have hi' : i < (bytesOf s).length:=by omega
 rw [List.take_add_one,List.getElem?_eq_getElem hi',List.drop_eq_getElem_cons hi',List.getD_eq_getElem?_getD,List.getElem?_eq_getElem hi']
 rw [List.set_append_right _ _ (by simp;omega)]
 have : i - (List.map lowB (List.take i (bytesOf s))).length = 0:=by simp;omega
 rw [this]
 simp only [List.set_cons_zero,Option.toList_some,List.map_append,List.map_cons,List.map_nil,List.append_assoc,List.cons_append,List.nil_append,Option.getD_some]
theorem lowAt_same (s : ByteArray) (i : Nat) (hi : i < s.size) (h : lowB ((bytesOf s).getD i 0) = (bytesOf s).getD i 0) : lowAt s i = lowAt s (i + 1):=by
 rw [← lowAt_succ s i hi,h,← lowAt_get s i hi]
 have hl:=lowAt_len s i
 rw [List.getD_eq_getElem?_getD,List.getElem?_eq_getElem (by omega)]
 simp
theorem lowAt_end (s : ByteArray) : lowAt s s.size = (bytesOf s).map lowB:=by
 unfold lowAt
 have hl:=bytesOf_length s
 rw [List.take_of_length_le (by omega),List.drop_eq_nil_of_le (by omega),List.append_nil]
theorem ByRow.same {w : World} {base g n cap : Nat} {xs ys : List Int} (h : ByRow w base g n cap xs) (he : xs = ys) : ByRow w base g n cap ys:=he ▸ h
set_option maxHeartbeats 8000000 in
set_option maxRecDepth 100000 in
theorem impl_lower.calls (a0 : ByteArray) (r : ByteArray) (w : World) (h : impl_lower.f a0 = some r) :
  Calls Tryd.prog 74 #[.string a0] w fun e w' => e = .returned (.string r) ∧ Below w.heap.size w w':=by
 have hsz : a0.size ≤ 140737488355328:=by
  unfold impl_lower.f at h
  split at h
  ·assumption
  ·cases h
 rw [impl_lower.f,if_pos hsz] at h
 obtain rfl:=Option.some.inj h
 clear h
 have HB:=aMk (Below.refl w.heap.size w)
 have hcv:=fun W => print_bytes (P:=Tryd.prog) 9 38 5 Tryd.underlying9 Tryd.underlying38 Tryd.underlying5 a0 W
 have HN:=aMk hsz
 clear hsz
 obtain ⟨cap,hcap⟩ : ∃ cap,cap = grownCap w a0.size 0 5:=⟨_,rfl⟩
 obtain ⟨W1,hW1⟩ : ∃ W1,W1 = Lib.bytesWorld w 5 a0:=⟨_,rfl⟩
 obtain ⟨g,hg⟩ : ∃ g,g = w.heap.size:=⟨_,rfl⟩
 replace hcv:=hcv w
 rw [← hcap,← hW1,← hg] at hcv
 have HR : Aside0 (ByRow W1 w.heap.size g a0.size cap (lowAt a0 0)):=by
  refine ⟨⟨lowAt_len _ _,by rw [hg];exact Nat.le_refl _,Lib.bytesCells w 5 a0,by rw [hW1,hg];exact Lib.bytesWorld_at_new w 5 a0,?_,?_,fun j x hj => ?_⟩⟩
  ·rw [hcap]
   have:=grownCap_ge w a0.size 0 5
   simp [Lib.bytesCells]
   omega
  ·rw [hcap]
   exact grownCap_ge w a0.size 0 5
  ·have hl:=lowAt_len a0 0
   have hj' : j < a0.size:=by rw [← hl];exact (List.getElem?_eq_some_iff.1 hj).1
   have h2 : lowAt a0 0 = bytesOf a0:=by simp [lowAt]
   rw [h2] at hj
   have hd : j < a0.data.size:=hj'
   simp only [Lib.bytesCells]
   rw [Array.getElem?_append_left (by simpa using hd)]
   simp only [bytesOf,List.getElem?_map] at hj
   simp only [Array.getElem?_map]
   rw [← Array.getElem?_toList]
   cases hq : a0.data.toList[j]? with
   | none => rw [hq] at hj;cases hj
   | some b => rw [hq] at hj;simp only [Option.map_some] at hj ⊢;rw [Option.some.inj hj]
 have HB1 : Aside0 (Below w.heap.size w W1):=by
  rw [hW1]
  exact ⟨bytes_below (Below.refl _ w) (Nat.le_refl _) _ _⟩
 clear hcap hW1 hg HB
 go_enter Tryd.func74,Tryd.ntmps74
 go_wp2
 go_loopg [10] a0.size (fun kq v10 w' => ∃ i : Nat,v10 = .int .i64 (i : Int) ∧ Aside0 (i + kq = a0.size) ∧ Aside0 (ByRow w' w.heap.size g a0.size cap (lowAt a0 i)) ∧ Aside0 (Below w.heap.size w w'))
 case atStart => exact ⟨0,rfl,⟨by omega⟩,HR,HB1⟩
 case round =>
  clear HR HB1 hcv
  obtain ⟨i,rfl,HK,HR,HB⟩:=hrel
  have hN:=HN.out
  cases gk with
  | zero =>
   have hi : i = a0.size:=by have:=HK.out;omega
   subst hi
   have cb0 : decide ((a0.size : Int) < (a0.size : Int)) = false:=decide_eq_false (by omega)
   have hback:=HR.out.back
   rw [lowAt_end] at hback
   go_wp2
   go_ret
   exact ⟨rfl,HB.out⟩
  | succ k1 =>
   have hi : i < a0.size:=by have:=HK.out;omega
   have cb0 : decide ((i : Int) < (a0.size : Int)) = true:=decide_eq_true (by omega)
   have p1 : (0 : Int) ≤ (i : Int):=by omega
   have q1 : (i : Int) < (a0.size : Int):=by omega
   have hcell:=HR.out.cell (i : Int) p1 q1
   have hfro:=HR.out.froz (i : Int) p1 q1
   rw [Int.toNat_natCast] at hcell hfro
   rw [lowAt_get a0 i hi] at hcell
   have hset:=HR.out.set i (lowB ((bytesOf a0).getD i 0))
   rw [lowAt_succ a0 i hi] at hset
   obtain ⟨c,hc⟩ : ∃ c,c = (bytesOf a0).getD i 0:=⟨_,rfl⟩
   rw [← hc] at hcell hset
   have HS:=aMk hset
   have HI:=aMk hi
   clear hset hi
   by_cases c1 : c ≥ 65
   ·have c1b0 : decide (c ≥ 65) = true:=decide_eq_true c1
    by_cases c2 : c ≤ 90
    ·have c2b0 : decide (c ≤ 90) = true:=decide_eq_true c2
     have hl : lowB c = (c + 32) % 256:=by rw [lowB,if_pos ⟨c1,c2⟩]
     rw [hl] at HS
     clear c1 c2 hl hc
     go_wp2
     go_roundg k1
     case measure => omega
     case rel => exact ⟨i + 1,(by first | rfl | simp),⟨by have:=HK.out;omega⟩,⟨HS.out⟩,⟨below_set HB.out HR.out.ge⟩⟩
    ·have c2b0 : decide (c ≤ 90) = false:=decide_eq_false c2
     have hl : lowB c = c:=by rw [lowB,if_neg (fun h => c2 h.2)]
     rw [hc] at hl
     have HR2:=aMk (HR.out.same (lowAt_same a0 i HI.out hl))
     clear c1 c2 hl hc HS
     go_wp2
     go_roundg k1
     case measure => omega
     case rel => exact ⟨i + 1,(by first | rfl | simp),⟨by have:=HK.out;omega⟩,HR2,HB⟩
   ·have c1b0 : decide (c ≥ 65) = false:=decide_eq_false c1
    have hl : lowB c = c:=by rw [lowB,if_neg (fun h => c1 h.1)]
    rw [hc] at hl
    have HR2:=aMk (HR.out.same (lowAt_same a0 i HI.out hl))
    clear c1 hl hc HS
    go_wp2
    go_roundg k1
    case measure => omega
    case rel => exact ⟨i + 1,(by first | rfl | simp),⟨by have:=HK.out;omega⟩,HR2,HB⟩
end
section
/-! ### impl_unescape: function 51 -/
def impl_unescape.l0 : Nat → ByteArray → List Int → Int → Option (ByteArray × Bool)
 | 0,_,_,_ => none
 | k + 1,x0,x4,x5 => if x5 < (x0.size : Int) then (if 0 ≤ x5 then (if (bt x0 x5) = 43 then (if x4.length < 140737488355328 then (impl_unescape.l0 k x0 (x4 ++ [32]) (wrap64 (x5 + 1))) else (none)) else (if (bt x0 x5) = 37 then (if (wrap64 (x5 + 2)) ≥ (x0.size : Int) then (some ((⟨#[]⟩ : ByteArray),false)) else (if 0 ≤ (wrap64 (x5 + 1)) then (if (wrap64 (x5 + 1)) ≤ (wrap64 (x5 + 3)) then (if (wrap64 (x5 + 3)) ≤ (x0.size : Int) then ((impl_lower.f (x0.extract ((wrap64 (x5 + 1)) : Int).toNat ((wrap64 (x5 + 3)) : Int).toNat)).bind fun t274 => ((impl_readHex.f k t274).bind fun bt275 => (if bt275.2 = true then (if x4.length + bt275.1.size < 140737488355328 then (impl_unescape.l0 k x0 (x4 ++ bytesOf bt275.1) (wrap64 ((wrap64 (x5 + 2)) + 1))) else (none)) else (some ((⟨#[]⟩ : ByteArray),false))))) else (none)) else (none)) else (none))) else (if x4.length < 140737488355328 then (impl_unescape.l0 k x0 (x4 ++ [bt x0 x5]) (wrap64 (x5 + 1))) else (none)))) else (none)) else (some (strOfNums x4,true))
def impl_unescape.f (k : Nat) (a0 : ByteArray) : Option (ByteArray × Bool):=impl_unescape.l0 k a0 (([] : List Int)) 0
theorem impl_unescape.mono_l : ∀ k,(∀ y0 y1 y2,LeO (impl_unescape.l0 k y0 y1 y2) (impl_unescape.l0 (k + 1) y0 y1 y2))
 | 0 => fun _ _ _ r h => by simp [impl_unescape.l0] at h
 | k + 1 => by
  have ih0:=impl_unescape.mono_l k
  ·intro y0 y1 y2
   unfold impl_unescape.l0
   repeat' first
   | (with_reducible exact ih0 _ _ _)
   | (with_reducible exact impl_readHex.mono ..)
   | (with_reducible exact LeO.refl _)
   | (with_reducible exact LeO.none _)
   | (with_reducible refine LeO.ite ?_ ?_)
   | (with_reducible refine LeO.bind ?_ (fun _ => ?_))
   | exact ih0 _ _ _
   | exact impl_readHex.mono ..
   | exact LeO.none _
   | refine LeO.ite ?_ ?_
   | refine LeO.bind ?_ (fun _ => ?_)
theorem impl_unescape.mono : ∀ a0 k,LeO (impl_unescape.f k a0) (impl_unescape.f (k + 1) a0):=by
 intro a0 k
 have ih0:=impl_unescape.mono_l k
 unfold impl_unescape.f
 repeat' first
   | (with_reducible exact ih0 _ _ _)
   | (with_reducible exact impl_readHex.mono ..)
   | (with_reducible exact LeO.refl _)
   | (with_reducible exact LeO.none _)
   | (with_reducible refine LeO.ite ?_ ?_)
   | (with_reducible refine LeO.bind ?_ (fun _ => ?_))
   | exact ih0 _ _ _
   | exact impl_readHex.mono ..
   | exact LeO.none _
   | refine LeO.ite ?_ ?_
   | refine LeO.bind ?_ (fun _ => ?_)
set_option maxHeartbeats 8000000 in
set_option maxRecDepth 100000 in
theorem impl_unescape.calls (k : Nat) (a0 : ByteArray) (r1 : ByteArray) (r2 : Bool) (w : World) (h : impl_unescape.f k a0 = some (r1,r2)) :
  Calls Tryd.prog 51 #[.string a0] w fun e w' => e = .returned (.tuple #[.string r1,.bool r2]) ∧ Below w.heap.size w w':=by
 have HB:=aMk (Below.refl w.heap.size w)
 have H : (impl_unescape.l0 k a0 (([] : List Int)) 0) = some (r1,r2):=h
 clear h
 obtain ⟨y268,hy268⟩ : ∃ y_ : List Int,y_ = (([] : List Int)):=⟨_,rfl⟩
 replace H : (impl_unescape.l0 k a0 y268 0) = some (r1,r2):=by first|(rw [hy268];with_reducible exact H)|(have H2_:=(Option.bind_some _ _).symm.trans H;rw [hy268];with_reducible exact H2_)|(have H2_:=(Option.bind_some _ _).symm.trans H;with_reducible exact H2_) | with_reducible exact H|(rw [hy268];exact H)|exact H
 have Ny268:=aMk hy268
 clear hy268
 have H':=aMk H
 clear H
 go_enter Tryd.func51,Tryd.ntmps51
 go_wp2_with (first|((with_reducible refine gate_dst (N:=8) rfl ?_);refine Kd.R_lit (Kd.int .u8) _ 5 ?hg (N:=8) ?hd (xs:=([] : List Int)) (inner:=[]) (ok:=fun _ => True) (okp:=fun _ => True) ?hr ?hp (fun _ hk => hk) trivial (Below.refl _ _) (Nat.le_refl _) (by simp) ?_;(case hd => rfl);(case hg => rfl);(case hr => first|(go_simp;done)|(go_simp;rfl));(case hp => exact (Reps.none _ _));intro v269 w2 ho3 hb hg_ hnew_;clear hg_ hnew_;(first|rw [← Ny268.out] at ho3|(simp only [Int.reduceToNat] at ho3;rw [← Ny268.out] at ho3));have n0_:=aMk (Kd.R_lower ho3 (below_size (by repeat first|exact HB.out|apply bwA|apply bwN|apply bw1)));have n1_:=aMk (below_step (by repeat first|exact HB.out|apply bwA|apply bwN|apply bw1) hb);clear HB;have HO270:=n0_;have HB:=n1_;clear n0_ n1_;clear hb ho3))
 go_loopg [4,5] k (fun kq v4 v5 w' => ∃ (x4_1 : List Int) (x5_1 : Int),v5 = .int .i64 x5_1 ∧ Aside0 (impl_unescape.l0 kq a0 x4_1 x5_1 = some (r1,r2)) ∧ Aside0 (kq ≤ k) ∧ Aside0 (Kd.R (Kd.int .u8) 5 w' w.heap.size (fun _ => True) v4 x4_1) ∧ Aside0 (Below w.heap.size w w'))
 case atStart => exact ⟨(y268),(0),(by first | rfl|(simp;done)|(simp [*];done)|(simp [ne_nil_b];done)|(simp [ne_nil_b, *];done)),H',⟨Nat.le_refl _⟩,⟨by (with_reducible repeat (first|apply Kd.R_alloc|apply Kd.R_drewN|apply Kd.R_drew));exact HO270.out⟩,⟨by repeat (first|(with_reducible first|exact HB.out|apply bwA|apply bwN|apply bw1)|exact HB.out)⟩⟩
 case round =>
  clear H'
  try clear p2
  obtain ⟨x4_1,x5_1,rfl,HA,HK1,HO_4,HB⟩:=hrel
  cases gk with
  | zero => exact absurd HA.out (by simp [impl_unescape.l0])
  | succ k1 =>
   have H:=HA.out
   clear HA
   simp only [impl_unescape.l0] at H
   by_cases c4 : x5_1 < (a0.size : Int)
   ·rw [if_pos c4] at H
    have c4b0 : decide (x5_1 < (a0.size : Int)) = true:=decide_eq_true c4
    clear c4
    by_cases c5 : 0 ≤ x5_1
    ·rw [if_pos c5] at H
     have c5b0 : decide (0 ≤ x5_1) = true:=decide_eq_true c5
     clear c5
     by_cases c7 : (bt a0 x5_1) = 43
     ·rw [if_pos c7] at H
      have c7b0 : ((bt a0 x5_1) == 43) = true:=beq_iff_eq.mpr c7
      have c7b1 : ((bt a0 x5_1) != 43) = false:=bne_eq_false_iff_eq.mpr c7
      clear c7
      by_cases c8 : x4_1.length < 140737488355328
      ·rw [if_pos c8] at H
       have LMc8:=aMk c8
       clear c8
       obtain ⟨y271,hy271⟩ : ∃ y_ : List Int,y_ = (x4_1 ++ [32]):=⟨_,rfl⟩
       replace H : (impl_unescape.l0 k1 a0 y271 (wrap64 (x5_1 + 1))) = some (r1,r2):=by first|(rw [hy271];with_reducible exact H)|(have H2_:=(Option.bind_some _ _).symm.trans H;rw [hy271];with_reducible exact H2_)|(have H2_:=(Option.bind_some _ _).symm.trans H;with_reducible exact H2_) | with_reducible exact H|(rw [hy271];exact H)|exact H
       have Ny271:=aMk hy271
       clear hy271
       have H':=aMk H
       clear H
       have p6 : 0 ≤ (x5_1 : Int):=of_decide_eq_true (by first|(with_reducible assumption) | assumption)
       have q6 : x5_1 < (a0.size : Int):=of_decide_eq_true (by first|(with_reducible assumption) | assumption)
       have hx6:=bt_at a0 x5_1
       replace p6:=eq_true p6
       replace q6:=eq_true q6
       go_wp2_with (first|((with_reducible refine gate_builtin (b:=.append) (xs:=#[.tmp 26,.tmp 27]) rfl ?_);at_builtin;refine Kd.R_append (Kd.int .u8) (w0:=w) w.heap.size rfl (.tmp 26) (.tmp 27) 38 5 (.int .u8 0) 1 rfl Tryd.underlying38 info5 rfl (by decide) (by omega) u4 x4_1 32 [.int .u8 32] (fun _ => True) (fun _ => False) rfl rfl ?aP (fun _ hk => hk.elim) ?aF ?aO ?aB ?aS ?aL ?_;(case aP => exact rfl);(case aB => exact (by repeat first|exact HB.out|apply bwA|apply bwN|apply bw1));(case aF => exact (fun _ _ => trivial));(case aO => exact (by (with_reducible repeat (first|apply Kd.R_alloc|apply Kd.R_drewN|apply Kd.R_drew));exact HO_4.out));(case aS => exact (below_size (by repeat first|exact HB.out|apply bwA|apply bwN|apply bw1)));(case aL => have:=LMc8.out;omega);intro v272 w9 ho hb hg hat;rw [← Ny271.out] at ho;have n0_:=aMk (hb);have n1_:=aMk (ho);clear HB;clear HO_4;have HB:=n0_;have HO273:=n1_;clear n0_ n1_;clear ho hb hg hat))
       go_roundg k1
       case measure => have:=HK1.out;omega
       case rel => exact ⟨(y271),(wrap64 (x5_1 + 1)),(by first | rfl|(simp;done)|(simp [*];done)|(simp [ne_nil_b];done)|(simp [ne_nil_b, *];done)),H',⟨by have:=HK1.out;omega⟩,⟨by (with_reducible repeat (first|apply Kd.R_alloc|apply Kd.R_drewN|apply Kd.R_drew));exact HO273.out⟩,⟨by repeat (first|(with_reducible first|exact HB.out|apply bwA|apply bwN|apply bw1)|exact HB.out)⟩⟩
      ·rw [if_neg c8] at H
       exact absurd H (by simp)
     ·rw [if_neg c7] at H
      have c7b0 : ((bt a0 x5_1) == 43) = false:=beq_eq_false_iff_ne.mpr c7
      have c7b1 : ((bt a0 x5_1) != 43) = true:=bne_iff_ne.mpr c7
      by_cases c10 : (bt a0 x5_1) = 37
      ·rw [if_pos c10] at H
       have c10b0 : ((bt a0 x5_1) == 37) = true:=beq_iff_eq.mpr c10
       have c10b1 : ((bt a0 x5_1) != 37) = false:=bne_eq_false_iff_eq.mpr c10
       clear c10
       by_cases c11 : (wrap64 (x5_1 + 2)) ≥ (a0.size : Int)
       ·rw [if_pos c11] at H
        have c11b0 : decide ((a0.size : Int) ≤ (wrap64 (x5_1 + 2))) = true:=decide_eq_true c11
        clear c11
        simp only [Option.some.injEq,Prod.mk.injEq] at H
        obtain ⟨rfl,rfl⟩:=H
        have p6 : 0 ≤ (x5_1 : Int):=of_decide_eq_true (by first|(with_reducible assumption) | assumption)
        have q6 : x5_1 < (a0.size : Int):=of_decide_eq_true (by first|(with_reducible assumption) | assumption)
        have hx6:=bt_at a0 x5_1
        replace p6:=eq_true p6
        replace q6:=eq_true q6
        go_wp2
        go_ret2
        exact ⟨by first | rfl|(simp [errW_none,errW_some] <;> rfl)|(simp [*,errW_none,errW_some] <;> rfl),by repeat (first|(with_reducible first|exact HB.out|apply bwA|apply bwN|apply bw1)|exact HB.out)⟩
       ·rw [if_neg c11] at H
        have c11b0 : decide ((a0.size : Int) ≤ (wrap64 (x5_1 + 2))) = false:=decide_eq_false c11
        clear c11
        obtain ⟨ji12,hji12⟩ : ∃ j_ : Int,(wrap64 (x5_1 + 1)) = j_:=⟨_,rfl⟩
        replace H : (if 0 ≤ (ji12) then (if (ji12) ≤ (wrap64 (x5_1 + 3)) then (if (wrap64 (x5_1 + 3)) ≤ (a0.size : Int) then ((impl_lower.f (a0.extract ((ji12) : Int).toNat ((wrap64 (x5_1 + 3)) : Int).toNat)).bind fun t274 => ((impl_readHex.f k1 t274).bind fun bt275 => (if bt275.2 = true then (if x4_1.length + bt275.1.size < 140737488355328 then (impl_unescape.l0 k1 a0 (x4_1 ++ bytesOf bt275.1) (wrap64 ((wrap64 (x5_1 + 2)) + 1))) else (none)) else (some ((⟨#[]⟩ : ByteArray),false))))) else (none)) else (none)) else (none)) = some (r1,r2):=by first|(rw [hji12] at H;exact H)|(simp only [hji12] at H ⊢;exact H)
        have hji12w : (IntKind.i64.wrap (x5_1 + 1)) = ji12:=(i64_w _).trans hji12
        by_cases c13 : 0 ≤ (ji12)
        ·rw [if_pos c13] at H
         have c13b0:=eq_true c13
         have c13b1 : decide (0 ≤ (ji12)) = true:=decide_eq_true c13
         clear c13
         by_cases c14 : (ji12) ≤ (wrap64 (x5_1 + 3))
         ·rw [if_pos c14] at H
          have c14b0:=eq_true c14
          have c14b1 : decide ((ji12) ≤ (wrap64 (x5_1 + 3))) = true:=decide_eq_true c14
          by_cases c15 : (wrap64 (x5_1 + 3)) ≤ (a0.size : Int)
          ·rw [if_pos c15] at H
           have c15b0:=eq_true c15
           have c15b1 : decide ((wrap64 (x5_1 + 3)) ≤ (a0.size : Int)) = true:=decide_eq_true c15
           replace H:=Option.bind_eq_some_iff.mp H
           obtain ⟨t274,A160,H⟩:=H
           replace H : ((impl_readHex.f k1 t274).bind fun bt275 => (if bt275.2 = true then (if x4_1.length + bt275.1.size < 140737488355328 then (impl_unescape.l0 k1 a0 (x4_1 ++ bytesOf bt275.1) (wrap64 ((wrap64 (x5_1 + 2)) + 1))) else (none)) else (some ((⟨#[]⟩ : ByteArray),false)))) = some (r1,r2):=H
           have A16:=aMk A160
           clear A160
           replace H:=Option.bind_eq_some_iff.mp H
           obtain ⟨⟨t275,t276⟩,A170,H⟩:=H
           replace H : (if t276 = true then (if x4_1.length + t275.size < 140737488355328 then (impl_unescape.l0 k1 a0 (x4_1 ++ bytesOf t275) (wrap64 ((wrap64 (x5_1 + 2)) + 1))) else (none)) else (some ((⟨#[]⟩ : ByteArray),false))) = some (r1,r2):=H
           have A17:=aMk A170
           clear A170
           by_cases c18 : t276 = true
           ·subst c18
            have H1 : (if x4_1.length + t275.size < 140737488355328 then (impl_unescape.l0 k1 a0 (x4_1 ++ bytesOf t275) (wrap64 ((wrap64 (x5_1 + 2)) + 1))) else (none)) = some (r1,r2):=by rw [if_pos rfl] at H;exact H
            clear H
            have H:=H1
            clear H1
            by_cases c19 : x4_1.length + t275.size < 140737488355328
            ·rw [if_pos c19] at H
             have LMc19:=aMk c19
             clear c19
             obtain ⟨y277,hy277⟩ : ∃ y_ : List Int,y_ = (x4_1 ++ bytesOf t275):=⟨_,rfl⟩
             replace H : (impl_unescape.l0 k1 a0 y277 (wrap64 ((wrap64 (x5_1 + 2)) + 1))) = some (r1,r2):=by first|(rw [hy277];with_reducible exact H)|(have H2_:=(Option.bind_some _ _).symm.trans H;rw [hy277];with_reducible exact H2_)|(have H2_:=(Option.bind_some _ _).symm.trans H;with_reducible exact H2_) | with_reducible exact H|(rw [hy277];exact H)|exact H
             have Ny277:=aMk hy277
             clear hy277
             have H':=aMk H
             clear H
             have p6 : 0 ≤ (x5_1 : Int):=of_decide_eq_true (by first|(with_reducible assumption) | assumption)
             have q6 : x5_1 < (a0.size : Int):=of_decide_eq_true (by first|(with_reducible assumption) | assumption)
             have hx6:=bt_at a0 x5_1
             replace p6:=eq_true p6
             replace q6:=eq_true q6
             go_wp2_with (first|((with_reducible refine gate_callee (f:=74) rfl ?_);refine goesL_ (some 43) rfl rfl Tryd.func74 (by kernel_rfl) rfl #[.string (a0.extract ((ji12) : Int).toNat ((wrap64 (x5_1 + 3)) : Int).toNat)] rfl (by (try simp only [List.map_toArray,List.map_cons,List.map_nil]);first | done|(simp only [hji12];rfl) | rfl|(simp only [List.length_drop,List.length_take];rfl)) ?_;(with_reducible refine (impl_lower.calls (a0.extract ((ji12) : Int).toNat ((wrap64 (x5_1 + 3)) : Int).toNat) t274 _ A16.out).mono ?_);rintro e w20 ⟨rfl,hb⟩;refine ⟨_,rfl,?_⟩;have n0_:=aMk (Kd.R_below (by (with_reducible repeat (first|apply Kd.R_alloc|apply Kd.R_drewN|apply Kd.R_drew));exact HO_4.out) hb);have n1_:=aMk (below_step (by repeat first|exact HB.out|apply bwA|apply bwN|apply bw1) hb);clear HO_4;clear HB;have HO_4:=n0_;have HB:=n1_;clear n0_ n1_;(try clear hb);(try clear hb2);(try clear hk);(try clear hi))|((with_reducible refine gate_callee (f:=73) rfl ?_);refine goesL_ (some 44) rfl rfl Tryd.func73 (by kernel_rfl) rfl #[.string t274] rfl (by (try simp only [List.map_toArray,List.map_cons,List.map_nil]);first | done | rfl|(simp only [List.length_drop,List.length_take];rfl)) ?_;(with_reducible refine (impl_readHex.calls k1 t274 t275 true _ A17.out).mono ?_);rintro e w21 ⟨rfl,hb⟩;refine ⟨_,rfl,?_⟩;have n0_:=aMk (Kd.R_below (by (with_reducible repeat (first|apply Kd.R_alloc|apply Kd.R_drewN|apply Kd.R_drew));exact HO_4.out) hb);have n1_:=aMk (below_step (by repeat first|exact HB.out|apply bwA|apply bwN|apply bw1) hb);clear HO_4;clear HB;have HO_4:=n0_;have HB:=n1_;clear n0_ n1_;(try clear hb);(try clear hb2);(try clear hk);(try clear hi))|(at_builtin;refine print_append_str (w0:=w) w.heap.size rfl (.tmp 49) _ 38 9 5 rfl Tryd.underlying38 Tryd.underlying9 info5 u4 x4_1 t275 rfl rfl ?aO ?aB ?aS ?aL ?_;(case aB => exact (by repeat first|exact HB.out|apply bwA|apply bwN|apply bw1));(case aO => exact (Kd.own_of_R (by (with_reducible repeat (first|apply Kd.R_alloc|apply Kd.R_drewN|apply Kd.R_drew));exact HO_4.out)));(case aS => exact (below_size (by repeat first|exact HB.out|apply bwA|apply bwN|apply bw1)));(case aL => have:=LMc19.out;omega);intro v278 w22 ho0 hb hg;have ho:=Kd.R_of_own (h1:=fun _ => rfl) (ok:=fun _ => True) ho0 (fun _ _ => trivial);clear ho0;have hat:=True.intro;rw [← Ny277.out] at ho;change Kd.R (Kd.int .u8) 5 w22 w.heap.size (fun _ => True) v278 y277 at ho;have n0_:=aMk (hb);have n1_:=aMk (ho);clear HB;clear HO_4;have HB:=n0_;have HO279:=n1_;clear n0_ n1_;clear ho hb hg hat))
             go_roundg k1
             case measure => have:=HK1.out;omega
             case rel => exact ⟨(y277),(wrap64 ((wrap64 (x5_1 + 2)) + 1)),(by first | rfl|(simp;done)|(simp [*];done)|(simp [ne_nil_b];done)|(simp [ne_nil_b, *];done)),H',⟨by have:=HK1.out;omega⟩,⟨by (with_reducible repeat (first|apply Kd.R_alloc|apply Kd.R_drewN|apply Kd.R_drew));exact HO279.out⟩,⟨by repeat (first|(with_reducible first|exact HB.out|apply bwA|apply bwN|apply bw1)|exact HB.out)⟩⟩
            ·rw [if_neg c19] at H
             exact absurd H (by simp)
           ·replace c18:=Bool.eq_false_iff.mpr c18
            subst c18
            have H1 : (some ((⟨#[]⟩ : ByteArray),false)) = some (r1,r2):=by rw [if_neg (show ¬ (false = true) by decide)] at H;exact H
            clear H
            have H:=H1
            clear H1
            simp only [Option.some.injEq,Prod.mk.injEq] at H
            obtain ⟨rfl,rfl⟩:=H
            have p6 : 0 ≤ (x5_1 : Int):=of_decide_eq_true (by first|(with_reducible assumption) | assumption)
            have q6 : x5_1 < (a0.size : Int):=of_decide_eq_true (by first|(with_reducible assumption) | assumption)
            have hx6:=bt_at a0 x5_1
            replace p6:=eq_true p6
            replace q6:=eq_true q6
            go_wp2_with (first|((with_reducible refine gate_callee (f:=74) rfl ?_);refine goesL_ (some 43) rfl rfl Tryd.func74 (by kernel_rfl) rfl #[.string (a0.extract ((ji12) : Int).toNat ((wrap64 (x5_1 + 3)) : Int).toNat)] rfl (by (try simp only [List.map_toArray,List.map_cons,List.map_nil]);first | done|(simp only [hji12];rfl) | rfl|(simp only [List.length_drop,List.length_take];rfl)) ?_;(with_reducible refine (impl_lower.calls (a0.extract ((ji12) : Int).toNat ((wrap64 (x5_1 + 3)) : Int).toNat) t274 _ A16.out).mono ?_);rintro e w23 ⟨rfl,hb⟩;refine ⟨_,rfl,?_⟩;have n0_:=aMk (Kd.R_below (by (with_reducible repeat (first|apply Kd.R_alloc|apply Kd.R_drewN|apply Kd.R_drew));exact HO_4.out) hb);have n1_:=aMk (below_step (by repeat first|exact HB.out|apply bwA|apply bwN|apply bw1) hb);clear HO_4;clear HB;have HO_4:=n0_;have HB:=n1_;clear n0_ n1_;(try clear hb);(try clear hb2);(try clear hk);(try clear hi))|((with_reducible refine gate_callee (f:=73) rfl ?_);refine goesL_ (some 44) rfl rfl Tryd.func73 (by kernel_rfl) rfl #[.string t274] rfl (by (try simp only [List.map_toArray,List.map_cons,List.map_nil]);first | done | rfl|(simp only [List.length_drop,List.length_take];rfl)) ?_;(with_reducible refine (impl_readHex.calls k1 t274 t275 false _ A17.out).mono ?_);rintro e w24 ⟨rfl,hb⟩;refine ⟨_,rfl,?_⟩;have n0_:=aMk (Kd.R_below (by (with_reducible repeat (first|apply Kd.R_alloc|apply Kd.R_drewN|apply Kd.R_drew));exact HO_4.out) hb);have n1_:=aMk (below_step (by repeat first|exact HB.out|apply bwA|apply bwN|apply bw1) hb);clear HO_4;clear HB;have HO_4:=n0_;have HB:=n1_;clear n0_ n1_;(try clear hb);(try clear hb2);(try clear hk);(try clear hi)))
            go_ret2
            exact ⟨by first | rfl|(simp [errW_none,errW_some] <;> rfl)|(simp only [← hji12];first | rfl|(simp [errW_none,errW_some] <;> rfl))|(simp [*,errW_none,errW_some] <;> rfl),by repeat (first|(with_reducible first|exact HB.out|apply bwA|apply bwN|apply bw1)|exact HB.out)⟩
          ·rw [if_neg c15] at H
           exact absurd H (by simp)
         ·rw [if_neg c14] at H
          exact absurd H (by simp)
        ·rw [if_neg c13] at H
         exact absurd H (by simp)
      ·rw [if_neg c10] at H
       have c10b0 : ((bt a0 x5_1) == 37) = false:=beq_eq_false_iff_ne.mpr c10
       have c10b1 : ((bt a0 x5_1) != 37) = true:=bne_iff_ne.mpr c10
       by_cases c26 : x4_1.length < 140737488355328
       ·rw [if_pos c26] at H
        have LMc26:=aMk c26
        clear c26
        obtain ⟨y280,hy280⟩ : ∃ y_ : List Int,y_ = (x4_1 ++ [bt a0 x5_1]):=⟨_,rfl⟩
        replace H : (impl_unescape.l0 k1 a0 y280 (wrap64 (x5_1 + 1))) = some (r1,r2):=by first|(rw [hy280];with_reducible exact H)|(have H2_:=(Option.bind_some _ _).symm.trans H;rw [hy280];with_reducible exact H2_)|(have H2_:=(Option.bind_some _ _).symm.trans H;with_reducible exact H2_) | with_reducible exact H|(rw [hy280];exact H)|exact H
        have Ny280:=aMk hy280
        clear hy280
        have H':=aMk H
        clear H
        have p6 : 0 ≤ (x5_1 : Int):=of_decide_eq_true (by first|(with_reducible assumption) | assumption)
        have q6 : x5_1 < (a0.size : Int):=of_decide_eq_true (by first|(with_reducible assumption) | assumption)
        have hx6:=bt_at a0 x5_1
        replace p6:=eq_true p6
        replace q6:=eq_true q6
        have p25 : 0 ≤ (x5_1 : Int):=of_decide_eq_true (by first|(with_reducible assumption) | assumption)
        have q25 : x5_1 < (a0.size : Int):=of_decide_eq_true (by first|(with_reducible assumption) | assumption)
        have hx25:=bt_at a0 x5_1
        replace p25:=eq_true p25
        replace q25:=eq_true q25
        go_wp2_with (first|((with_reducible refine gate_builtin (b:=.append) (xs:=#[.tmp 18,.tmp 22]) rfl ?_);at_builtin;refine Kd.R_append (Kd.int .u8) (w0:=w) w.heap.size rfl (.tmp 18) (.tmp 22) 38 5 (.int .u8 0) 1 rfl Tryd.underlying38 info5 rfl (by decide) (by omega) u4 x4_1 (bt a0 x5_1) [.int .u8 (bt a0 x5_1)] (fun _ => True) (fun _ => False) rfl rfl ?aP (fun _ hk => hk.elim) ?aF ?aO ?aB ?aS ?aL ?_;(case aP => exact rfl);(case aB => exact (by repeat first|exact HB.out|apply bwA|apply bwN|apply bw1));(case aF => exact (fun _ _ => trivial));(case aO => exact (by (with_reducible repeat (first|apply Kd.R_alloc|apply Kd.R_drewN|apply Kd.R_drew));exact HO_4.out));(case aS => exact (below_size (by repeat first|exact HB.out|apply bwA|apply bwN|apply bw1)));(case aL => have:=LMc26.out;omega);intro v281 w27 ho hb hg hat;rw [← Ny280.out] at ho;have n0_:=aMk (hb);have n1_:=aMk (ho);clear HB;clear HO_4;have HB:=n0_;have HO282:=n1_;clear n0_ n1_;clear ho hb hg hat))
        go_roundg k1
        case measure => have:=HK1.out;omega
        case rel => exact ⟨(y280),(wrap64 (x5_1 + 1)),(by first | rfl|(simp;done)|(simp [*];done)|(simp [ne_nil_b];done)|(simp [ne_nil_b, *];done)),H',⟨by have:=HK1.out;omega⟩,⟨by (with_reducible repeat (first|apply Kd.R_alloc|apply Kd.R_drewN|apply Kd.R_drew));exact HO282.out⟩,⟨by repeat (first|(with_reducible first|exact HB.out|apply bwA|apply bwN|apply bw1)|exact HB.out)⟩⟩
       ·rw [if_neg c26] at H
        exact absurd H (by simp)
    ·rw [if_neg c5] at H
     exact absurd H (by simp)
   ·rw [if_neg c4] at H
    have c4b0 : decide (x5_1 < (a0.size : Int)) = false:=decide_eq_false c4
    clear c4
    simp only [Option.some.injEq,Prod.mk.injEq] at H
    obtain ⟨rfl,rfl⟩:=H
    have hcv28:=own_string (P:=Tryd.prog) Tryd.underlying38 Tryd.underlying5 Tryd.underlying9 (Kd.own_of_R HO_4.out)
    go_wp2
    go_ret2
    exact ⟨by first | rfl|(simp [errW_none,errW_some] <;> rfl)|(simp [*,errW_none,errW_some] <;> rfl),by repeat (first|(with_reducible first|exact HB.out|apply bwA|apply bwN|apply bw1)|exact HB.out)⟩
end
section
/-! ### strings_Split: function 65 -/
-- IMPORT Derived.Shelf.Strings.Split
def splitRen : Go.Shelf.Ren:=⟨fun x => match x with | 146 => 65 | 221 => 85 | 268 => 98 | 138 => 67 | 143 => 80 | 195 => 87 | 197 => 117 | 218 => 88 | 219 => 93 | 260 => 130 | 217 => 83 | 225 => 101 | 224 => 102 | 267 => 103 | 266 => 97 | 314 => 118 | n => n,fun x => match x with | 9 => 9 | 31 => 59 | 3 => 3 | 4 => 4 | 0 => 0 | 105 => 114 | 21 => 21 | 5 => 5 | 46 => 86 | 119 => 135 | 139 => 138 | 138 => 137 | 146 => 117 | 51 => 116 | n => n,fun x => match x with | 1 => 0 | 3 => 2 | 4 => 3 | n => n⟩
set_option maxRecDepth 100000 in
theorem splitLays : Go.Proofs.Lays.n146 Tryd.prog splitRen:={ mixed:=by kernel_rfl,f138:=Tryd.func67.trans (congrArg some (by kernel_rfl)),f143:=Tryd.func80.trans (congrArg some (by kernel_rfl)),f146:=Tryd.func65.trans (congrArg some (by kernel_rfl)),f195:=Tryd.func87.trans (congrArg some (by kernel_rfl)),f197:=Tryd.func117.trans (congrArg some (by kernel_rfl)),f217:=Tryd.func83.trans (congrArg some (by kernel_rfl)),f218:=Tryd.func88.trans (congrArg some (by kernel_rfl)),f219:=Tryd.func93.trans (congrArg some (by kernel_rfl)),f221:=Tryd.func85.trans (congrArg some (by kernel_rfl)),f224:=Tryd.func102.trans (congrArg some (by kernel_rfl)),f225:=Tryd.func101.trans (congrArg some (by kernel_rfl)),f260:=Tryd.func130.trans (congrArg some (by kernel_rfl)),f266:=Tryd.func97.trans (congrArg some (by kernel_rfl)),f267:=Tryd.func103.trans (congrArg some (by kernel_rfl)),f268:=Tryd.func98.trans (congrArg some (by kernel_rfl)),f314:=Tryd.func118.trans (congrArg some (by kernel_rfl)),t0:=Tryd.underlying0,a0:=Tryd.isAgg0,z0:=Tryd.sizeOf0,v0:=Tryd.zeroValue0,t3:=Tryd.underlying3,a3:=Tryd.isAgg3,z3:=Tryd.sizeOf3,v3:=Tryd.zeroValue3,t4:=Tryd.underlying4,a4:=Tryd.isAgg4,z4:=Tryd.sizeOf4,v4:=Tryd.zeroValue4,t5:=Tryd.underlying5,a5:=Tryd.isAgg5,z5:=Tryd.sizeOf5,v5:=Tryd.zeroValue5,t9:=Tryd.underlying9,a9:=Tryd.isAgg9,z9:=Tryd.sizeOf9,v9:=Tryd.zeroValue9,t21:=Tryd.underlying21,a21:=Tryd.isAgg21,z21:=Tryd.sizeOf21,v21:=Tryd.zeroValue21,t31:=Tryd.underlying59,a31:=Tryd.isAgg59,z31:=Tryd.sizeOf59,v31:=Tryd.zeroValue59,t46:=Tryd.underlying86,a46:=Tryd.isAgg86,z46:=Tryd.sizeOf86,v46:=Tryd.zeroValue86,t51:=Tryd.underlying116,a51:=Tryd.isAgg116,z51:=Tryd.sizeOf116,v51:=Tryd.zeroValue116,t105:=Tryd.underlying114,a105:=Tryd.isAgg114,z105:=Tryd.sizeOf114,v105:=Tryd.zeroValue114,t119:=Tryd.underlying135,a119:=Tryd.isAgg135,z119:=Tryd.sizeOf135,t138:=Tryd.underlying137,a138:=Tryd.isAgg137,z138:=Tryd.sizeOf137,v138:=Tryd.zeroValue137,t139:=Tryd.underlying138,a139:=Tryd.isAgg138,z139:=Tryd.sizeOf138,v139:=Tryd.zeroValue138,t146:=Tryd.underlying117,a146:=Tryd.isAgg117,z146:=Tryd.sizeOf117,v146:=Tryd.zeroValue117,g1:=by kernel_rfl,g3:=by kernel_rfl,g4:=by kernel_rfl }
theorem index_byte1 (c : UInt8) : ∀ l : List UInt8,Lib.index l [c] = Lib.indexByte l c
 | [] => rfl
 | b :: l => by
  have e : [c].isPrefixOf (b :: l) = (b == c):=by
   rw [List.isPrefixOf_cons_cons]
   simp [Bool.beq_comm,BEq.comm]
  rw [Lib.index,Lib.indexByte,e,index_byte1 c l]
/-- The pieces between the instances of a separator of one byte. -/
def splitOn1 (s sep : ByteArray) : List ByteArray:=Lib.splitB sep 0 (Lib.countB s sep) s
def strings_Split.f (a0 a1 : ByteArray) : Option (List ByteArray):=if a1.size = 1 ∧ a0.size < 4294967281 then some (splitOn1 a0 a1) else none
theorem strings_Split.calls (a0 a1 : ByteArray) (r : List ByteArray) (w : World) (h : strings_Split.f a0 a1 = some r) :
  Calls Tryd.prog 65 #[.string a0,.string a1] w fun e w' => ∃ v0_ : Value,e = .returned (v0_) ∧ Kd.R Kd.string 9 w' w.heap.size (fun _ => True) v0_ r ∧ Below w.heap.size w w':=by
 by_cases hb : a1.size = 1 ∧ a0.size < 4294967281
 ·rw [strings_Split.f,if_pos hb] at h
  obtain rfl:=Option.some.inj h
  obtain ⟨c,rfl⟩:=Lib.one_byte a1 hb.1
  have hle:=Lib.countB_le (⟨#[c]⟩ : ByteArray) (Nat.le_refl _) a0.size a0 (Nat.le_refl _)
  have hlen:=Lib.splitB_all (⟨#[c]⟩ : ByteArray) (Nat.le_refl _) 0 _ a0 rfl
  have hI : ∀ (x : ByteArray) (c2 : Array Value),x.size ≤ a0.size → Calls Tryd.prog 80 #[.string x,.string ⟨#[c]⟩] (w.alloc (.cells c2 9)) fun e w' => e = .returned (.int .i64 (Lib.indexB x ⟨#[c]⟩)) ∧ w' = w.alloc (.cells c2 9):=fun x c2 _ => by
   refine (Any.strings_Index_one (ρ:=splitRen) { splitLays with } x c _).mono fun e w' hh => ?_
   rw [show Lib.indexB x ⟨#[c]⟩ = Lib.indexByte x.data.toList c from index_byte1 c _]
   exact hh
  have hC : Calls Tryd.prog 67 #[.string a0,.string ⟨#[c]⟩] w fun e w' => e = .returned (.int .i64 (Lib.countB a0 ⟨#[c]⟩)) ∧ w' = w:=by
   refine (Any.strings_Count_one (ρ:=splitRen) { splitLays with } a0 c w).mono fun e w' ⟨he,hw⟩ => ⟨?_,hw⟩
   rw [he]
   show _ = Ending.returned (Value.int .i64 ((Lib.count a0.data.toList [c] : Nat) : Int))
   rw [Lib.count_one]
   rfl
  have cc:=Any.strings_genSplit_core (ρ:=splitRen) { splitLays with } (by kernel_rfl) a0 ⟨#[c]⟩ 0 (-1) (Lib.countB a0 ⟨#[c]⟩ + 1) w hb.2 (Nat.le_refl _) (Nat.zero_le _) hI hC (by decide) (by decide) (by rw [if_pos (by decide)];omega)
  rw [Nat.add_sub_cancel,hlen] at cc
  have e2 : Lib.cellsOf (Lib.splitB ⟨#[c]⟩ 0 (Lib.countB a0 ⟨#[c]⟩) a0) (Lib.countB a0 ⟨#[c]⟩ + 1) = ((Lib.splitB ⟨#[c]⟩ 0 (Lib.countB a0 ⟨#[c]⟩) a0).map Value.string).toArray:=by rw [← hlen];exact Lib.cellsOf_full _
  rw [e2] at cc
  go_enter Tryd.func65,Tryd.ntmps65
  go_wp2_with (go_at_call 85;refine cc.mono ?_;rintro e w' ⟨rfl,hw⟩;rw [hw])
  go_ret
  refine ⟨_,rfl,?_,(Below.refl _ w).alloc (Nat.le_refl _) _⟩
  have hO : OwnRow (Kd.string.M (w.alloc (.cells ((splitOn1 a0 ⟨#[c]⟩).map Value.string).toArray 9)) w.heap.size (fun k => True ∧ some k ≠ (Value.slice (some ⟨w.heap.size,0,none⟩) (splitOn1 a0 ⟨#[c]⟩).length (splitOn1 a0 ⟨#[c]⟩).length).ownBlock)) 9 1 (w.alloc (.cells ((splitOn1 a0 ⟨#[c]⟩).map Value.string).toArray 9)) w.heap.size (.slice (some ⟨w.heap.size,0,none⟩) (splitOn1 a0 ⟨#[c]⟩).length (splitOn1 a0 ⟨#[c]⟩).length) (splitOn1 a0 ⟨#[c]⟩):=by
   refine OwnRow.lit w w.heap.size ⟨by simp,fun j p hj => ?_⟩ (Nat.le_refl _) ?_
   ·show ((((splitOn1 a0 ⟨#[c]⟩).map Value.string).drop (j * 1)).take 1) = [Value.string p]
    have hj' : ((splitOn1 a0 ⟨#[c]⟩).map Value.string)[j]? = some (Value.string p):=by rw [List.getElem?_map,hj];rfl
    obtain ⟨hlt,hget⟩:=List.getElem?_eq_some_iff.1 hj'
    rw [Nat.mul_one,List.drop_eq_getElem_cons hlt,hget]
    rfl
   ·show (splitOn1 a0 ⟨#[c]⟩).length ≤ _
    have h1 : (splitOn1 a0 ⟨#[c]⟩).length = Lib.countB a0 ⟨#[c]⟩ + 1:=hlen
    omega
  have e3 : Lib.countB a0 ⟨#[c]⟩ + 1 = (splitOn1 a0 ⟨#[c]⟩).length:=hlen.symm
  rw [e3]
  exact ⟨fun k _ => trivial,hO⟩
 ·rw [strings_Split.f,if_neg hb] at h
  cases h
end
section
-- IMPORT Derived.Laws.BitsLemmas
-- IMPORT Derived.OpenShut
theorem bndu8 {n : Int} (h : (Lit.int .u8 n).wf = true) : 0 ≤ n ∧ n ≤ 255:=bounds_u8 h
theorem wrap_id {n : Int} (h0 : -9223372036854775808 ≤ n) (h1 : n ≤ 9223372036854775807) : wrap64 n = n:=by
 unfold wrap64;omega
end
section
/-! ### strings_Cut: function 66 -/
-- IMPORT Derived.Shelf.Strings.Cut
-- IMPORT Derived.Lib.SplitLaws
def cutRen : Go.Shelf.Ren:=⟨fun x => match x with | 145 => 66 | 220 => 86 | 219 => 93 | 217 => 83 | 225 => 101 | 224 => 102 | 267 => 103 | 266 => 97 | 314 => 118 | n => n,fun x => match x with | 9 => 9 | 4 => 4 | 59 => 70 | 3 => 3 | 5 => 5 | 46 => 86 | 146 => 117 | 51 => 116 | n => n,fun x => match x with | 1 => 0 | n => n⟩
set_option maxRecDepth 100000 in
theorem cutLays : Go.Proofs.Lays.n145 Tryd.prog cutRen:={ mixed:=by kernel_rfl,f145:=Tryd.func66.trans (congrArg some (by kernel_rfl)),f217:=Tryd.func83.trans (congrArg some (by kernel_rfl)),f219:=Tryd.func93.trans (congrArg some (by kernel_rfl)),f220:=Tryd.func86.trans (congrArg some (by kernel_rfl)),f224:=Tryd.func102.trans (congrArg some (by kernel_rfl)),f225:=Tryd.func101.trans (congrArg some (by kernel_rfl)),f266:=Tryd.func97.trans (congrArg some (by kernel_rfl)),f267:=Tryd.func103.trans (congrArg some (by kernel_rfl)),f314:=Tryd.func118.trans (congrArg some (by kernel_rfl)),t3:=Tryd.underlying3,a3:=Tryd.isAgg3,z3:=Tryd.sizeOf3,v3:=Tryd.zeroValue3,t4:=Tryd.underlying4,a4:=Tryd.isAgg4,z4:=Tryd.sizeOf4,v4:=Tryd.zeroValue4,t5:=Tryd.underlying5,a5:=Tryd.isAgg5,z5:=Tryd.sizeOf5,v5:=Tryd.zeroValue5,t9:=Tryd.underlying9,a9:=Tryd.isAgg9,z9:=Tryd.sizeOf9,v9:=Tryd.zeroValue9,t46:=Tryd.underlying86,a46:=Tryd.isAgg86,z46:=Tryd.sizeOf86,v46:=Tryd.zeroValue86,t51:=Tryd.underlying116,a51:=Tryd.isAgg116,z51:=Tryd.sizeOf116,v51:=Tryd.zeroValue116,t59:=Tryd.underlying70,a59:=Tryd.isAgg70,z59:=Tryd.sizeOf70,v59:=Tryd.zeroValue70,t146:=Tryd.underlying117,a146:=Tryd.isAgg117,z146:=Tryd.sizeOf117,v146:=Tryd.zeroValue117,g1:=by kernel_rfl }
theorem index_byte2 (c : UInt8) : ∀ l : List UInt8,Lib.index l [c] = Lib.indexByte l c
 | [] => rfl
 | b :: l => by
  have e : [c].isPrefixOf (b :: l) = (b == c):=by
   rw [List.isPrefixOf_cons_cons]
   simp [Bool.beq_comm,BEq.comm]
  rw [Lib.index,Lib.indexByte,e,index_byte2 c l]
def cutAt (s sep : ByteArray) : ByteArray × ByteArray × Bool:=if 0 ≤ Lib.indexB s sep then (s.extract 0 (Lib.indexB s sep).toNat,s.extract ((Lib.indexB s sep).toNat + sep.size) s.size,true) else (s,ByteArray.empty,false)
def strings_Cut.f (a0 a1 : ByteArray) : Option (ByteArray × ByteArray × Bool):=if a1.size = 1 ∧ a0.size < 4294967281 then some (cutAt a0 a1) else none
set_option maxHeartbeats 2000000 in
set_option maxRecDepth 100000 in
theorem slite_Cut_by (s sep : ByteArray) (w : World) (hs : s.size < 4294967281) (hI : ∀ w : World,Calls Tryd.prog 93 #[.string s,.string sep] w fun e w' => e = .returned (.int .i64 (Lib.indexB s sep)) ∧ w' = w) :
  Calls Tryd.prog 86 #[.string s,.string sep] w fun e w' => e = .returned (.tuple #[.string (cutAt s sep).1,.string (cutAt s sep).2.1,.bool (cutAt s sep).2.2]) ∧ ∃ n,w' = w.drewN n:=by
 rcases Lib.indexB_cases s sep with hix | ⟨i,hix,hroom⟩
 ·have e : cutAt s sep = (s,ByteArray.empty,false):=by rw [cutAt,hix,if_neg (by decide)]
  rw [e]
  go_enter Tryd.func86,Tryd.ntmps86
  go_wp2_with (go_at_call 93;refine (hI _).mono ?_;rintro e w' ⟨rfl,rfl⟩;rw [hix])
  go_ret3
  exact ⟨rfl,0,rfl⟩
 ·have e : cutAt s sep = (s.extract 0 i,s.extract (i + sep.size) s.size,true):=by rw [cutAt,hix,if_pos (by omega),Int.toNat_natCast]
  rw [e]
  have hw1 : IntKind.i64.wrap ((i : Int) + (sep.size : Int)) = (i : Int) + (sep.size : Int):=by rw [i64_w];exact wrap_id (by omega) (by omega)
  have hw2 : wrap64 ((i : Int) + (sep.size : Int)) = (i : Int) + (sep.size : Int):=wrap_id (by omega) (by omega)
  have mixed : Tryd.prog.follows Departure.mixedOrders = true:=by kernel_rfl
  have c1 : (0 : Int) ≤ ↑i:=by omega
  have c2 : (↑i : Int) ≤ ↑s.size:=by omega
  have c3 : (0 : Int) ≤ ↑i + ↑sep.size:=by omega
  have c4 : (↑i + ↑sep.size : Int) ≤ ↑s.size:=by omega
  go_enter Tryd.func86,Tryd.ntmps86
  go_wp2_with (go_at_call 93;refine (hI _).mono ?_;rintro e w' ⟨rfl,rfl⟩;rw [hix])
  go_region_o
  go_wp2
  go_ret3
  exact ⟨rfl,1,rfl⟩
theorem slite_Cut_one (s : ByteArray) (c : UInt8) (w : World) (hs : s.size < 4294967281) :
  Calls Tryd.prog 86 #[.string s,.string ⟨#[c]⟩] w fun e w' => e = .returned (.tuple #[.string (cutAt s ⟨#[c]⟩).1,.string (cutAt s ⟨#[c]⟩).2.1,.bool (cutAt s ⟨#[c]⟩).2.2]) ∧ ∃ n,w' = w.drewN n :=
 slite_Cut_by s ⟨#[c]⟩ w hs fun w => by
  refine (Any.stringslite_Index_one (ρ:=cutRen) { cutLays with } s c w).mono fun e w' hh => ?_
  rw [show Lib.indexB s ⟨#[c]⟩ = Lib.indexByte s.data.toList c from index_byte2 c _]
  exact hh
set_option maxHeartbeats 1000000 in
set_option maxRecDepth 100000 in
theorem strings_Cut.calls (a0 a1 : ByteArray) (r1 : ByteArray) (r2 : ByteArray) (r3 : Bool) (w : World) (h : strings_Cut.f a0 a1 = some (r1,r2,r3)) :
  Calls Tryd.prog 66 #[.string a0,.string a1] w fun e w' => e = .returned (.tuple #[.string r1,.string r2,.bool r3]) ∧ Drawn0 w w':=by
 by_cases hb : a1.size = 1 ∧ a0.size < 4294967281
 ·rw [strings_Cut.f,if_pos hb] at h
  have h1:=Option.some.inj h
  obtain ⟨c,rfl⟩:=Lib.one_byte a1 hb.1
  have hh:=slite_Cut_one a0 c w hb.2
  rw [h1] at hh
  go_enter Tryd.func66,Tryd.ntmps66
  go_wp2_with (go_at_call 86;refine hh.mono ?_;rintro e w' ⟨rfl,n,rfl⟩)
  go_ret3
  exact ⟨rfl,n,rfl⟩
 ·rw [strings_Cut.f,if_neg hb] at h
  cases h
end
section
/-! ### strings_Count: function 67 -/
-- IMPORT Derived.Shelf.Strings.Count
-- IMPORT Derived.Lib.SplitLaws
def countRen : Go.Shelf.Ren:=⟨fun x => match x with | 138 => 67 | 195 => 87 | 218 => 88 | 143 => 80 | 219 => 93 | 217 => 83 | 225 => 101 | 224 => 102 | 267 => 103 | 266 => 97 | 314 => 118 | n => n,fun x => match x with | 9 => 9 | 3 => 3 | 4 => 4 | 5 => 5 | 0 => 0 | 46 => 86 | 146 => 117 | 51 => 116 | n => n,fun x => match x with | 1 => 0 | n => n⟩
set_option maxRecDepth 100000 in
theorem countLays : Go.Proofs.Lays.n138 Tryd.prog countRen:={ mixed:=by kernel_rfl,f138:=Tryd.func67.trans (congrArg some (by kernel_rfl)),f143:=Tryd.func80.trans (congrArg some (by kernel_rfl)),f195:=Tryd.func87.trans (congrArg some (by kernel_rfl)),f217:=Tryd.func83.trans (congrArg some (by kernel_rfl)),f218:=Tryd.func88.trans (congrArg some (by kernel_rfl)),f219:=Tryd.func93.trans (congrArg some (by kernel_rfl)),f224:=Tryd.func102.trans (congrArg some (by kernel_rfl)),f225:=Tryd.func101.trans (congrArg some (by kernel_rfl)),f266:=Tryd.func97.trans (congrArg some (by kernel_rfl)),f267:=Tryd.func103.trans (congrArg some (by kernel_rfl)),f314:=Tryd.func118.trans (congrArg some (by kernel_rfl)),t0:=Tryd.underlying0,a0:=Tryd.isAgg0,z0:=Tryd.sizeOf0,v0:=Tryd.zeroValue0,t3:=Tryd.underlying3,a3:=Tryd.isAgg3,z3:=Tryd.sizeOf3,v3:=Tryd.zeroValue3,t4:=Tryd.underlying4,a4:=Tryd.isAgg4,z4:=Tryd.sizeOf4,v4:=Tryd.zeroValue4,t5:=Tryd.underlying5,a5:=Tryd.isAgg5,z5:=Tryd.sizeOf5,v5:=Tryd.zeroValue5,t9:=Tryd.underlying9,a9:=Tryd.isAgg9,z9:=Tryd.sizeOf9,v9:=Tryd.zeroValue9,t46:=Tryd.underlying86,a46:=Tryd.isAgg86,z46:=Tryd.sizeOf86,v46:=Tryd.zeroValue86,t51:=Tryd.underlying116,a51:=Tryd.isAgg116,z51:=Tryd.sizeOf116,v51:=Tryd.zeroValue116,t146:=Tryd.underlying117,a146:=Tryd.isAgg117,z146:=Tryd.sizeOf117,v146:=Tryd.zeroValue117,g1:=by kernel_rfl }
def strings_Count.f (a0 a1 : ByteArray) : Option Int:=if a1.size = 1 then some (Lib.countB a0 a1 : Nat) else none
theorem strings_Count.calls (a0 a1 : ByteArray) (r : Int) (w : World) (h : strings_Count.f a0 a1 = some r) :
  Calls Tryd.prog 67 #[.string a0,.string a1] w fun e w' => e = .returned (.int .i64 r) ∧ Drawn0 w w':=by
 by_cases hb : a1.size = 1
 ·rw [strings_Count.f,if_pos hb] at h
  obtain rfl:=Option.some.inj h
  obtain ⟨c,rfl⟩:=Lib.one_byte a1 hb
  refine (Any.strings_Count_one countLays a0 c w).mono fun e w' ⟨he,hw⟩ => ⟨?_,0,hw⟩
  rw [he]
  show _ = Ending.returned (Value.int .i64 ((Lib.count a0.data.toList [c] : Nat) : Int))
  rw [Lib.count_one]
  rfl
 ·rw [strings_Count.f,if_neg hb] at h
  cases h
end
section
/-! ### impl_readForm: function 41 -/
def impl_readForm.l0 : Nat → List (S55) → List ByteArray → Int → Int → Option ((List (S55)) × Bool)
 | 0,_,_,_,_ => none
 | k + 1,x4,x24,x25,x26 => if x26 < x25 then (if 0 ≤ x26 then (if x26 < (x24.length : Int) then ((strings_Cut.f (rdOf ByteArray.empty x24 x26) (⟨#[61]⟩ : ByteArray)).bind fun bt292 => ((impl_unescape.f k bt292.1).bind fun bt295 => ((impl_unescape.f k bt292.2.1).bind fun bt297 => ((strings_Count.f (rdOf ByteArray.empty x24 x26) (⟨#[61]⟩ : ByteArray)).bind fun t299 => (if t299 = 1 then (if bt295.1.toList = ([] : List UInt8) then (some (([] : List (S55)),false)) else (if bt295.2 = true then (if bt297.2 = true then (if x4.length < 4398046511104 then (impl_readForm.l0 k (x4 ++ [(⟨bt295.1,bt297.1⟩ : S55)]) x24 x25 (wrap64 (x26 + 1))) else (none)) else (some (([] : List (S55)),false))) else (some (([] : List (S55)),false)))) else (some (([] : List (S55)),false))))))) else (none)) else (none)) else (some (x4,true))
def impl_readForm.f (k : Nat) (a0 : ByteArray) : Option ((List (S55)) × Bool):=(some (([] : List (S55)) : List (S55))).bind fun y285 => (if a0.toList = ([] : List UInt8) then (some (y285,true)) else ((strings_Split.f a0 (⟨#[38]⟩ : ByteArray)).bind fun t288 => (if (t288.length : Int) > 8 then (some (([] : List (S55)),false)) else (impl_readForm.l0 k y285 t288 (t288.length : Int) 0))))
theorem impl_readForm.mono_l : ∀ k,(∀ y0 y1 y2 y3,LeO (impl_readForm.l0 k y0 y1 y2 y3) (impl_readForm.l0 (k + 1) y0 y1 y2 y3))
 | 0 => fun _ _ _ _ r h => by simp [impl_readForm.l0] at h
 | k + 1 => by
  have ih0:=impl_readForm.mono_l k
  ·intro y0 y1 y2 y3
   unfold impl_readForm.l0
   repeat' first
   | (with_reducible exact ih0 _ _ _ _)
   | (with_reducible exact impl_unescape.mono ..)
   | (with_reducible exact LeO.refl _)
   | (with_reducible exact LeO.none _)
   | (with_reducible refine LeO.ite ?_ ?_)
   | (with_reducible refine LeO.bind ?_ (fun _ => ?_))
   | exact ih0 _ _ _ _
   | exact impl_unescape.mono ..
   | exact LeO.none _
   | refine LeO.ite ?_ ?_
   | refine LeO.bind ?_ (fun _ => ?_)
theorem impl_readForm.mono : ∀ a0 k,LeO (impl_readForm.f k a0) (impl_readForm.f (k + 1) a0):=by
 intro a0 k
 have ih0:=impl_readForm.mono_l k
 unfold impl_readForm.f
 repeat' first
   | (with_reducible exact ih0 _ _ _ _)
   | (with_reducible exact impl_unescape.mono ..)
   | (with_reducible exact LeO.refl _)
   | (with_reducible exact LeO.none _)
   | (with_reducible refine LeO.ite ?_ ?_)
   | (with_reducible refine LeO.bind ?_ (fun _ => ?_))
   | exact ih0 _ _ _ _
   | exact impl_unescape.mono ..
   | exact LeO.none _
   | refine LeO.ite ?_ ?_
   | refine LeO.bind ?_ (fun _ => ?_)
set_option maxHeartbeats 8000000 in
set_option maxRecDepth 100000 in
theorem impl_readForm.calls (k : Nat) (a0 : ByteArray) (r1 : List (S55)) (r2 : Bool) (w : World) (h : impl_readForm.f k a0 = some (r1,r2)) :
  Calls Tryd.prog 41 #[.string a0] w fun e w' => ∃ v0_ : Value,e = .returned (.tuple #[v0_,.bool r2]) ∧ Kd.R k55 55 w' w.heap.size (fun _ => True) v0_ r1 ∧ Below w.heap.size w w':=by
 have hu55:=Tryd.underlying55
 have HB:=aMk (Below.refl w.heap.size w)
 have H : ((some (([] : List (S55)) : List (S55))).bind fun y285 => (if a0.toList = ([] : List UInt8) then (some (y285,true)) else ((strings_Split.f a0 (⟨#[38]⟩ : ByteArray)).bind fun t288 => (if (t288.length : Int) > 8 then (some (([] : List (S55)),false)) else (impl_readForm.l0 k y285 t288 (t288.length : Int) 0))))) = some (r1,r2):=h
 clear h
 obtain ⟨y285,hy285⟩ : ∃ y_ : List (S55),y_ = (([] : List (S55))):=⟨_,rfl⟩
 replace H : (if a0.toList = ([] : List UInt8) then (some (y285,true)) else ((strings_Split.f a0 (⟨#[38]⟩ : ByteArray)).bind fun t288 => (if (t288.length : Int) > 8 then (some (([] : List (S55)),false)) else (impl_readForm.l0 k y285 t288 (t288.length : Int) 0)))) = some (r1,r2):=by first|(rw [hy285];with_reducible exact H)|(have H2_:=(Option.bind_some _ _).symm.trans H;rw [hy285];with_reducible exact H2_)|(have H2_:=(Option.bind_some _ _).symm.trans H;with_reducible exact H2_) | with_reducible exact H|(rw [hy285];exact H)|exact H
 have Ny285:=aMk hy285
 clear hy285
 by_cases c2 : a0.toList = ([] : List UInt8)
 ·rw [if_pos c2] at H
  have c2b0 : (a0.toList == ([] : List UInt8)) = true:=beq_iff_eq.mpr c2
  have c2b1 : (a0.toList != ([] : List UInt8)) = false:=bne_eq_false_iff_eq.mpr c2
  clear c2
  simp only [Option.some.injEq,Prod.mk.injEq] at H
  obtain ⟨rfl,rfl⟩:=H
  go_enter Tryd.func41,Tryd.ntmps41
  go_wp2_with (first|((with_reducible refine gate_dst (N:=15) rfl ?_);refine Kd.R_lit k55 _ 55 ?hg (N:=15) ?hd (xs:=([] : List (S55))) (inner:=[]) (ok:=fun _ => True) (okp:=fun _ => True) ?hr ?hp (fun _ hk => hk) trivial (Below.refl _ _) (Nat.le_refl _) (by simp) ?_;(case hd => rfl);(case hg => rfl);(case hr => first|(go_simp;done)|(go_simp;rfl));(case hp => exact (Reps.none _ _));intro v286 w3 ho4 hb hg_ hnew_;clear hg_ hnew_;(first|rw [← Ny285.out] at ho4|(simp only [Int.reduceToNat] at ho4;rw [← Ny285.out] at ho4));have n0_:=aMk (Kd.R_lower ho4 (below_size (by repeat first|exact HB.out|apply bwA|apply bwN|apply bw1)));have n1_:=aMk (below_step (by repeat first|exact HB.out|apply bwA|apply bwN|apply bw1) hb);clear HB;have HO287:=n0_;have HB:=n1_;clear n0_ n1_;clear hb ho4))
  go_ret2
  exact ⟨_,by first | rfl|(simp [errW_none,errW_some] <;> rfl)|(simp [*,errW_none,errW_some] <;> rfl),by (with_reducible repeat (first|apply Kd.R_alloc|apply Kd.R_drewN|apply Kd.R_drew));exact HO287.out,by repeat (first|(with_reducible first|exact HB.out|apply bwA|apply bwN|apply bw1)|exact HB.out)⟩
 ·rw [if_neg c2] at H
  have c2b0 : (a0.toList == ([] : List UInt8)) = false:=beq_eq_false_iff_ne.mpr c2
  have c2b1 : (a0.toList != ([] : List UInt8)) = true:=bne_iff_ne.mpr c2
  replace H:=Option.bind_eq_some_iff.mp H
  obtain ⟨t288,A50,H⟩:=H
  replace H : (if (t288.length : Int) > 8 then (some (([] : List (S55)),false)) else (impl_readForm.l0 k y285 t288 (t288.length : Int) 0)) = some (r1,r2):=H
  have A5:=aMk A50
  clear A50
  by_cases c6 : (t288.length : Int) > 8
  ·rw [if_pos c6] at H
   have c6b0 : decide (8 < (t288.length : Int)) = true:=decide_eq_true c6
   have c6b1 : decide (8 < t288.length) = true:=decide_eq_true (by omega)
   clear c6
   simp only [Option.some.injEq,Prod.mk.injEq] at H
   obtain ⟨rfl,rfl⟩:=H
   go_enter Tryd.func41,Tryd.ntmps41
   go_wp2_with (first|((with_reducible refine gate_dst (N:=15) rfl ?_);refine Kd.R_lit k55 _ 55 ?hg (N:=15) ?hd (xs:=([] : List (S55))) (inner:=[]) (ok:=fun _ => True) (okp:=fun _ => True) ?hr ?hp (fun _ hk => hk) trivial (Below.refl _ _) (Nat.le_refl _) (by simp) ?_;(case hd => rfl);(case hg => rfl);(case hr => first|(go_simp;done)|(go_simp;rfl));(case hp => exact (Reps.none _ _));intro v286 w7 ho8 hb hg_ hnew_;clear hg_ hnew_;(first|rw [← Ny285.out] at ho8|(simp only [Int.reduceToNat] at ho8;rw [← Ny285.out] at ho8));have n0_:=aMk (Kd.R_lower ho8 (below_size (by repeat first|exact HB.out|apply bwA|apply bwN|apply bw1)));have n1_:=aMk (below_step (by repeat first|exact HB.out|apply bwA|apply bwN|apply bw1) hb);clear HB;have HO287:=n0_;have HB:=n1_;clear n0_ n1_;clear hb ho8)|((with_reducible refine gate_callee (f:=65) rfl ?_);refine goesL_ (some 20) rfl rfl Tryd.func65 (by kernel_rfl) rfl #[.string a0,.string (⟨#[38]⟩ : ByteArray)] rfl (by (try simp only [List.map_toArray,List.map_cons,List.map_nil]);first | done | rfl|(simp only [List.length_drop,List.length_take];rfl)) ?_;(with_reducible refine (strings_Split.calls a0 (⟨#[38]⟩ : ByteArray) t288 _ A5.out).mono ?_);rintro e w9 ⟨v289,rfl,ho0,hb⟩;refine ⟨_,rfl,?_⟩;have n0_:=aMk (Kd.R_below (by (with_reducible repeat (first|apply Kd.R_alloc|apply Kd.R_drewN|apply Kd.R_drew));exact HO287.out) hb);have n1_:=aMk (Kd.R_lower ho0 (below_size (by repeat first|exact HB.out|apply bwA|apply bwN|apply bw1)));have n2_:=aMk (below_step (by repeat first|exact HB.out|apply bwA|apply bwN|apply bw1) hb);clear HO287;clear HB;have HO287:=n0_;have HO290:=n1_;have HB:=n2_;clear n0_ n1_ n2_;(try clear hb);(try clear hb2);(try clear hk);(try clear hi);(try clear ho0);obtain ⟨Ao10,co10,eo10⟩:=Kd.R_slice HO290.out;subst eo10))
   go_ret2
   exact ⟨_,by first | rfl|(simp [errW_none,errW_some] <;> rfl)|(simp [*,errW_none,errW_some] <;> rfl),by first|exact Kd.R_nil _ _ _ _ _|exact Kd.N_nil _ _ _ _ _|exact Kd.V_nil _ _ _ _ _|exact Kd.Q_nil _ _ _ _ _|exact Kd.S_nil _ _ _ _ _,by repeat (first|(with_reducible first|exact HB.out|apply bwA|apply bwN|apply bw1)|exact HB.out)⟩
  ·rw [if_neg c6] at H
   have c6b0 : decide (8 < (t288.length : Int)) = false:=decide_eq_false c6
   have c6b1 : decide (8 < t288.length) = false:=decide_eq_false (by omega)
   clear c6
   have H':=aMk H
   clear H
   go_enter Tryd.func41,Tryd.ntmps41
   go_wp2_with (first|((with_reducible refine gate_dst (N:=15) rfl ?_);refine Kd.R_lit k55 _ 55 ?hg (N:=15) ?hd (xs:=([] : List (S55))) (inner:=[]) (ok:=fun _ => True) (okp:=fun _ => True) ?hr ?hp (fun _ hk => hk) trivial (Below.refl _ _) (Nat.le_refl _) (by simp) ?_;(case hd => rfl);(case hg => rfl);(case hr => first|(go_simp;done)|(go_simp;rfl));(case hp => exact (Reps.none _ _));intro v286 w11 ho12 hb hg_ hnew_;clear hg_ hnew_;(first|rw [← Ny285.out] at ho12|(simp only [Int.reduceToNat] at ho12;rw [← Ny285.out] at ho12));have n0_:=aMk (Kd.R_lower ho12 (below_size (by repeat first|exact HB.out|apply bwA|apply bwN|apply bw1)));have n1_:=aMk (below_step (by repeat first|exact HB.out|apply bwA|apply bwN|apply bw1) hb);clear HB;have HO287:=n0_;have HB:=n1_;clear n0_ n1_;clear hb ho12)|((with_reducible refine gate_callee (f:=65) rfl ?_);refine goesL_ (some 20) rfl rfl Tryd.func65 (by kernel_rfl) rfl #[.string a0,.string (⟨#[38]⟩ : ByteArray)] rfl (by (try simp only [List.map_toArray,List.map_cons,List.map_nil]);first | done | rfl|(simp only [List.length_drop,List.length_take];rfl)) ?_;(with_reducible refine (strings_Split.calls a0 (⟨#[38]⟩ : ByteArray) t288 _ A5.out).mono ?_);rintro e w13 ⟨v289,rfl,ho0,hb⟩;refine ⟨_,rfl,?_⟩;have n0_:=aMk (Kd.R_below (by (with_reducible repeat (first|apply Kd.R_alloc|apply Kd.R_drewN|apply Kd.R_drew));exact HO287.out) hb);have n1_:=aMk (Kd.R_lower ho0 (below_size (by repeat first|exact HB.out|apply bwA|apply bwN|apply bw1)));have n2_:=aMk (below_step (by repeat first|exact HB.out|apply bwA|apply bwN|apply bw1) hb);clear HO287;clear HB;have HO287:=n0_;have HO290:=n1_;have HB:=n2_;clear n0_ n1_ n2_;(try clear hb);(try clear hb2);(try clear hk);(try clear hi);(try clear ho0);obtain ⟨Ao14,co14,eo14⟩:=Kd.R_slice HO290.out;subst eo14))
   go_loopg [4,26] k (fun kq v4 v26 w' => ∃ (x4_1 : List (S55)) (x26_1 : Int),v26 = .int .i64 x26_1 ∧ Aside0 (impl_readForm.l0 kq x4_1 t288 (t288.length : Int) x26_1 = some (r1,r2)) ∧ Aside0 (kq ≤ k) ∧ Aside0 (Kd.R k55 55 w' w.heap.size (fun _ => True) v4 x4_1) ∧ Aside0 (Kd.R Kd.string 9 w' w.heap.size (fun _ => True) (.slice Ao14 t288.length co14) t288) ∧ Aside0 (Below w.heap.size w w'))
   case atStart => exact ⟨(y285),(0),(by first | rfl|(simp;done)|(simp [*];done)|(simp [ne_nil_b];done)|(simp [ne_nil_b, *];done)),H',⟨Nat.le_refl _⟩,⟨by (with_reducible repeat (first|apply Kd.R_alloc|apply Kd.R_drewN|apply Kd.R_drew));exact HO287.out⟩,⟨by (with_reducible repeat (first|apply Kd.R_alloc|apply Kd.R_drewN|apply Kd.R_drew));exact HO290.out⟩,⟨by repeat (first|(with_reducible first|exact HB.out|apply bwA|apply bwN|apply bw1)|exact HB.out)⟩⟩
   case round =>
    clear H'
    try clear c2
    try clear c2b0
    try clear c2b1
    try clear p2
    try clear c4
    try clear c6
    try clear c6b0
    try clear c6b1
    obtain ⟨x4_1,x26_1,rfl,HA,HK1,HO_4,HO_24,HB⟩:=hrel
    cases gk with
    | zero => exact absurd HA.out (by simp [impl_readForm.l0])
    | succ k1 =>
     have H:=HA.out
     clear HA
     simp only [impl_readForm.l0] at H
     by_cases c15 : x26_1 < (t288.length : Int)
     ·rw [if_pos c15] at H
      have c15b0 : decide (x26_1 < (t288.length : Int)) = true:=decide_eq_true c15
      clear c15
      by_cases c16 : 0 ≤ x26_1
      ·rw [if_pos c16] at H
       have c16b0 : decide (0 ≤ x26_1) = true:=decide_eq_true c16
       clear c16
       by_cases c17 : x26_1 < (t288.length : Int)
       ·rw [if_pos c17] at H
        have c17b0 : decide (x26_1 < (t288.length : Int)) = true:=decide_eq_true c17
        clear c17
        replace H:=Option.bind_eq_some_iff.mp H
        obtain ⟨⟨t292,t293,t294⟩,A180,H⟩:=H
        replace H : ((impl_unescape.f k1 t292).bind fun bt295 => ((impl_unescape.f k1 t293).bind fun bt297 => ((strings_Count.f (rdOf ByteArray.empty t288 x26_1) (⟨#[61]⟩ : ByteArray)).bind fun t299 => (if t299 = 1 then (if bt295.1.toList = ([] : List UInt8) then (some (([] : List (S55)),false)) else (if bt295.2 = true then (if bt297.2 = true then (if x4_1.length < 4398046511104 then (impl_readForm.l0 k1 (x4_1 ++ [(⟨bt295.1,bt297.1⟩ : S55)]) t288 (t288.length : Int) (wrap64 (x26_1 + 1))) else (none)) else (some (([] : List (S55)),false))) else (some (([] : List (S55)),false)))) else (some (([] : List (S55)),false)))))) = some (r1,r2):=H
        have A18:=aMk A180
        clear A180
        replace H:=Option.bind_eq_some_iff.mp H
        obtain ⟨⟨t295,t296⟩,A190,H⟩:=H
        replace H : ((impl_unescape.f k1 t293).bind fun bt297 => ((strings_Count.f (rdOf ByteArray.empty t288 x26_1) (⟨#[61]⟩ : ByteArray)).bind fun t299 => (if t299 = 1 then (if t295.toList = ([] : List UInt8) then (some (([] : List (S55)),false)) else (if t296 = true then (if bt297.2 = true then (if x4_1.length < 4398046511104 then (impl_readForm.l0 k1 (x4_1 ++ [(⟨t295,bt297.1⟩ : S55)]) t288 (t288.length : Int) (wrap64 (x26_1 + 1))) else (none)) else (some (([] : List (S55)),false))) else (some (([] : List (S55)),false)))) else (some (([] : List (S55)),false))))) = some (r1,r2):=H
        have A19:=aMk A190
        clear A190
        replace H:=Option.bind_eq_some_iff.mp H
        obtain ⟨⟨t297,t298⟩,A200,H⟩:=H
        replace H : ((strings_Count.f (rdOf ByteArray.empty t288 x26_1) (⟨#[61]⟩ : ByteArray)).bind fun t299 => (if t299 = 1 then (if t295.toList = ([] : List UInt8) then (some (([] : List (S55)),false)) else (if t296 = true then (if t298 = true then (if x4_1.length < 4398046511104 then (impl_readForm.l0 k1 (x4_1 ++ [(⟨t295,t297⟩ : S55)]) t288 (t288.length : Int) (wrap64 (x26_1 + 1))) else (none)) else (some (([] : List (S55)),false))) else (some (([] : List (S55)),false)))) else (some (([] : List (S55)),false)))) = some (r1,r2):=H
        have A20:=aMk A200
        clear A200
        replace H:=Option.bind_eq_some_iff.mp H
        obtain ⟨t299,A210,H⟩:=H
        replace H : (if t299 = 1 then (if t295.toList = ([] : List UInt8) then (some (([] : List (S55)),false)) else (if t296 = true then (if t298 = true then (if x4_1.length < 4398046511104 then (impl_readForm.l0 k1 (x4_1 ++ [(⟨t295,t297⟩ : S55)]) t288 (t288.length : Int) (wrap64 (x26_1 + 1))) else (none)) else (some (([] : List (S55)),false))) else (some (([] : List (S55)),false)))) else (some (([] : List (S55)),false))) = some (r1,r2):=H
        have A21:=aMk A210
        clear A210
        by_cases c22 : t299 = 1
        ·rw [if_pos c22] at H
         have c22b0 : (t299 == 1) = true:=beq_iff_eq.mpr c22
         have c22b1 : (t299 != 1) = false:=bne_eq_false_iff_eq.mpr c22
         clear c22
         by_cases c23 : t295.toList = ([] : List UInt8)
         ·rw [if_pos c23] at H
          have c23b0 : (t295.toList == ([] : List UInt8)) = true:=beq_iff_eq.mpr c23
          have c23b1 : (t295.toList != ([] : List UInt8)) = false:=bne_eq_false_iff_eq.mpr c23
          clear c23
          simp only [Option.some.injEq,Prod.mk.injEq] at H
          obtain ⟨rfl,rfl⟩:=H
          have p291 : 0 ≤ (x26_1 : Int):=of_decide_eq_true (by first|(with_reducible assumption) | assumption)
          have q291 : x26_1 < (t288.length : Int):=of_decide_eq_true (by first|(with_reducible assumption) | assumption)
          obtain ⟨ad291,e291,hx291_0⟩:=Kd.at_string (Kd.R_reads' HO_24.out).2.2 x26_1 p291 q291
          cases e291
          replace p291:=eq_true p291
          replace q291:=eq_true q291
          go_wp2_with (first|((with_reducible refine gate_callee (f:=66) rfl ?_);refine goesL_ (some 32) rfl rfl Tryd.func66 (by kernel_rfl) rfl #[.string (rdOf ByteArray.empty t288 x26_1),.string (⟨#[61]⟩ : ByteArray)] rfl (by (try simp only [List.map_toArray,List.map_cons,List.map_nil]);first | done | rfl|(simp only [List.length_drop,List.length_take];rfl)) ?_;(with_reducible refine (strings_Cut.calls (rdOf ByteArray.empty t288 x26_1) (⟨#[61]⟩ : ByteArray) t292 t293 t294 _ A18.out).mono ?_);rintro e w' ⟨rfl,⟨nd,rfl⟩⟩;refine ⟨_,rfl,?_⟩)|((with_reducible refine gate_callee (f:=51) rfl ?_);refine goesL_ (some 38) rfl rfl Tryd.func51 (by kernel_rfl) rfl #[.string t292] rfl (by (try simp only [List.map_toArray,List.map_cons,List.map_nil]);first | done | rfl|(simp only [List.length_drop,List.length_take];rfl)) ?_;(with_reducible refine (impl_unescape.calls k1 t292 t295 t296 _ A19.out).mono ?_);rintro e w24 ⟨rfl,hb⟩;refine ⟨_,rfl,?_⟩;have n0_:=aMk (Kd.R_below (by (with_reducible repeat (first|apply Kd.R_alloc|apply Kd.R_drewN|apply Kd.R_drew));exact HO_4.out) hb);have n1_:=aMk (Kd.R_below (by (with_reducible repeat (first|apply Kd.R_alloc|apply Kd.R_drewN|apply Kd.R_drew));exact HO_24.out) hb);have n2_:=aMk (below_step (by repeat first|exact HB.out|apply bwA|apply bwN|apply bw1) hb);clear HO_4;clear HO_24;clear HB;have HO_4:=n0_;have HO_24:=n1_;have HB:=n2_;clear n0_ n1_ n2_;(try clear hb);(try clear hb2);(try clear hk);(try clear hi))|((with_reducible refine gate_callee (f:=51) rfl ?_);refine goesL_ (some 43) rfl rfl Tryd.func51 (by kernel_rfl) rfl #[.string t293] rfl (by (try simp only [List.map_toArray,List.map_cons,List.map_nil]);first | done | rfl|(simp only [List.length_drop,List.length_take];rfl)) ?_;(with_reducible refine (impl_unescape.calls k1 t293 t297 t298 _ A20.out).mono ?_);rintro e w25 ⟨rfl,hb⟩;refine ⟨_,rfl,?_⟩;have n0_:=aMk (Kd.R_below (by (with_reducible repeat (first|apply Kd.R_alloc|apply Kd.R_drewN|apply Kd.R_drew));exact HO_4.out) hb);have n1_:=aMk (Kd.R_below (by (with_reducible repeat (first|apply Kd.R_alloc|apply Kd.R_drewN|apply Kd.R_drew));exact HO_24.out) hb);have n2_:=aMk (below_step (by repeat first|exact HB.out|apply bwA|apply bwN|apply bw1) hb);clear HO_4;clear HO_24;clear HB;have HO_4:=n0_;have HO_24:=n1_;have HB:=n2_;clear n0_ n1_ n2_;(try clear hb);(try clear hb2);(try clear hk);(try clear hi))|((with_reducible refine gate_callee (f:=67) rfl ?_);refine goesL_ (some 47) rfl rfl Tryd.func67 (by kernel_rfl) rfl #[.string (rdOf ByteArray.empty t288 x26_1),.string (⟨#[61]⟩ : ByteArray)] rfl (by (try simp only [List.map_toArray,List.map_cons,List.map_nil]);first | done | rfl|(simp only [List.length_drop,List.length_take];rfl)) ?_;(with_reducible refine (strings_Count.calls (rdOf ByteArray.empty t288 x26_1) (⟨#[61]⟩ : ByteArray) t299 _ A21.out).mono ?_);rintro e w' ⟨rfl,⟨nd,rfl⟩⟩;refine ⟨_,rfl,?_⟩))
          go_ret2
          exact ⟨_,by first | rfl|(simp [errW_none,errW_some] <;> rfl)|(simp [*,errW_none,errW_some] <;> rfl),by first|exact Kd.R_nil _ _ _ _ _|exact Kd.N_nil _ _ _ _ _|exact Kd.V_nil _ _ _ _ _|exact Kd.Q_nil _ _ _ _ _|exact Kd.S_nil _ _ _ _ _,by repeat (first|(with_reducible first|exact HB.out|apply bwA|apply bwN|apply bw1)|exact HB.out)⟩
         ·rw [if_neg c23] at H
          have c23b0 : (t295.toList == ([] : List UInt8)) = false:=beq_eq_false_iff_ne.mpr c23
          have c23b1 : (t295.toList != ([] : List UInt8)) = true:=bne_iff_ne.mpr c23
          by_cases c26 : t296 = true
          ·subst c26
           have H1 : (if t298 = true then (if x4_1.length < 4398046511104 then (impl_readForm.l0 k1 (x4_1 ++ [(⟨t295,t297⟩ : S55)]) t288 (t288.length : Int) (wrap64 (x26_1 + 1))) else (none)) else (some (([] : List (S55)),false))) = some (r1,r2):=by rw [if_pos rfl] at H;exact H
           clear H
           have H:=H1
           clear H1
           by_cases c27 : t298 = true
           ·subst c27
            have H1 : (if x4_1.length < 4398046511104 then (impl_readForm.l0 k1 (x4_1 ++ [(⟨t295,t297⟩ : S55)]) t288 (t288.length : Int) (wrap64 (x26_1 + 1))) else (none)) = some (r1,r2):=by rw [if_pos rfl] at H;exact H
            clear H
            have H:=H1
            clear H1
            by_cases c28 : x4_1.length < 4398046511104
            ·rw [if_pos c28] at H
             have LMc28:=aMk c28
             clear c28
             obtain ⟨y300,hy300⟩ : ∃ y_ : List (S55),y_ = (x4_1 ++ [(⟨t295,t297⟩ : S55)]):=⟨_,rfl⟩
             replace H : (impl_readForm.l0 k1 y300 t288 (t288.length : Int) (wrap64 (x26_1 + 1))) = some (r1,r2):=by first|(rw [hy300];with_reducible exact H)|(have H2_:=(Option.bind_some _ _).symm.trans H;rw [hy300];with_reducible exact H2_)|(have H2_:=(Option.bind_some _ _).symm.trans H;with_reducible exact H2_) | with_reducible exact H|(rw [hy300];exact H)|exact H
             have Ny300:=aMk hy300
             clear hy300
             have H':=aMk H
             clear H
             have p291 : 0 ≤ (x26_1 : Int):=of_decide_eq_true (by first|(with_reducible assumption) | assumption)
             have q291 : x26_1 < (t288.length : Int):=of_decide_eq_true (by first|(with_reducible assumption) | assumption)
             obtain ⟨ad291,e291,hx291_0⟩:=Kd.at_string (Kd.R_reads' HO_24.out).2.2 x26_1 p291 q291
             cases e291
             replace p291:=eq_true p291
             replace q291:=eq_true q291
             go_wp2_with (first|((with_reducible refine gate_callee (f:=66) rfl ?_);refine goesL_ (some 32) rfl rfl Tryd.func66 (by kernel_rfl) rfl #[.string (rdOf ByteArray.empty t288 x26_1),.string (⟨#[61]⟩ : ByteArray)] rfl (by (try simp only [List.map_toArray,List.map_cons,List.map_nil]);first | done | rfl|(simp only [List.length_drop,List.length_take];rfl)) ?_;(with_reducible refine (strings_Cut.calls (rdOf ByteArray.empty t288 x26_1) (⟨#[61]⟩ : ByteArray) t292 t293 t294 _ A18.out).mono ?_);rintro e w' ⟨rfl,⟨nd,rfl⟩⟩;refine ⟨_,rfl,?_⟩)|((with_reducible refine gate_callee (f:=51) rfl ?_);refine goesL_ (some 38) rfl rfl Tryd.func51 (by kernel_rfl) rfl #[.string t292] rfl (by (try simp only [List.map_toArray,List.map_cons,List.map_nil]);first | done | rfl|(simp only [List.length_drop,List.length_take];rfl)) ?_;(with_reducible refine (impl_unescape.calls k1 t292 t295 true _ A19.out).mono ?_);rintro e w29 ⟨rfl,hb⟩;refine ⟨_,rfl,?_⟩;have n0_:=aMk (Kd.R_below (by (with_reducible repeat (first|apply Kd.R_alloc|apply Kd.R_drewN|apply Kd.R_drew));exact HO_4.out) hb);have n1_:=aMk (Kd.R_below (by (with_reducible repeat (first|apply Kd.R_alloc|apply Kd.R_drewN|apply Kd.R_drew));exact HO_24.out) hb);have n2_:=aMk (below_step (by repeat first|exact HB.out|apply bwA|apply bwN|apply bw1) hb);clear HO_4;clear HO_24;clear HB;have HO_4:=n0_;have HO_24:=n1_;have HB:=n2_;clear n0_ n1_ n2_;(try clear hb);(try clear hb2);(try clear hk);(try clear hi))|((with_reducible refine gate_callee (f:=51) rfl ?_);refine goesL_ (some 43) rfl rfl Tryd.func51 (by kernel_rfl) rfl #[.string t293] rfl (by (try simp only [List.map_toArray,List.map_cons,List.map_nil]);first | done | rfl|(simp only [List.length_drop,List.length_take];rfl)) ?_;(with_reducible refine (impl_unescape.calls k1 t293 t297 true _ A20.out).mono ?_);rintro e w30 ⟨rfl,hb⟩;refine ⟨_,rfl,?_⟩;have n0_:=aMk (Kd.R_below (by (with_reducible repeat (first|apply Kd.R_alloc|apply Kd.R_drewN|apply Kd.R_drew));exact HO_4.out) hb);have n1_:=aMk (Kd.R_below (by (with_reducible repeat (first|apply Kd.R_alloc|apply Kd.R_drewN|apply Kd.R_drew));exact HO_24.out) hb);have n2_:=aMk (below_step (by repeat first|exact HB.out|apply bwA|apply bwN|apply bw1) hb);clear HO_4;clear HO_24;clear HB;have HO_4:=n0_;have HO_24:=n1_;have HB:=n2_;clear n0_ n1_ n2_;(try clear hb);(try clear hb2);(try clear hk);(try clear hi))|((with_reducible refine gate_callee (f:=67) rfl ?_);refine goesL_ (some 47) rfl rfl Tryd.func67 (by kernel_rfl) rfl #[.string (rdOf ByteArray.empty t288 x26_1),.string (⟨#[61]⟩ : ByteArray)] rfl (by (try simp only [List.map_toArray,List.map_cons,List.map_nil]);first | done | rfl|(simp only [List.length_drop,List.length_take];rfl)) ?_;(with_reducible refine (strings_Count.calls (rdOf ByteArray.empty t288 x26_1) (⟨#[61]⟩ : ByteArray) t299 _ A21.out).mono ?_);rintro e w' ⟨rfl,⟨nd,rfl⟩⟩;refine ⟨_,rfl,?_⟩)|((with_reducible refine gate_builtin (b:=.append) (xs:=#[.tmp 61,.tmp 65]) rfl ?_);at_builtin;refine Kd.R_append k55 (w0:=w) w.heap.size rfl (.tmp 61) (.tmp 65) 32 55 (.agg #[(.string ⟨#[]⟩),(.string ⟨#[]⟩)]) 32 rfl Tryd.underlying32 info55 rfl (by decide) (by omega) u4 x4_1 (⟨t295,t297⟩ : S55) [.string t295,.string t297] (fun _ => True) (fun _ => False) rfl rfl ?aP (fun _ hk => hk.elim) ?aF ?aO ?aB ?aS ?aL ?_;(case aP => exact k55_mkM _ _ _ (⟨t295,t297⟩ : S55));(case aB => exact (by repeat first|exact HB.out|apply bwA|apply bwN|apply bw1));(case aF => exact (fun _ _ => trivial));(case aO => exact (by (with_reducible repeat (first|apply Kd.R_alloc|apply Kd.R_drewN|apply Kd.R_drew));exact HO_4.out));(case aS => exact (below_size (by repeat first|exact HB.out|apply bwA|apply bwN|apply bw1)));(case aL => have:=LMc28.out;omega);intro v301 w31 ho hb hg hat;rw [← Ny300.out] at ho;have n0_:=aMk (Kd.R_over' (by (with_reducible repeat (first|apply Kd.R_alloc|apply Kd.R_drewN|apply Kd.R_drew));exact HO_24.out) (Kd.R_typed (by (with_reducible repeat (first|apply Kd.R_alloc|apply Kd.R_drewN|apply Kd.R_drew));exact HO_4.out)) (by decide) hg);have n1_:=aMk (hb);have n2_:=aMk (ho);clear HO_24;clear HB;clear HO_4;have HO_24:=n0_;have HB:=n1_;have HO302:=n2_;clear n0_ n1_ n2_;clear ho hb hg hat))
             go_roundg k1
             case measure => have:=HK1.out;omega
             case rel => exact ⟨(y300),(wrap64 (x26_1 + 1)),(by first | rfl|(simp;done)|(simp [*];done)|(simp [ne_nil_b];done)|(simp [ne_nil_b, *];done)),H',⟨by have:=HK1.out;omega⟩,⟨by (with_reducible repeat (first|apply Kd.R_alloc|apply Kd.R_drewN|apply Kd.R_drew));exact HO302.out⟩,⟨by (with_reducible repeat (first|apply Kd.R_alloc|apply Kd.R_drewN|apply Kd.R_drew));exact HO_24.out⟩,⟨by repeat (first|(with_reducible first|exact HB.out|apply bwA|apply bwN|apply bw1)|exact HB.out)⟩⟩
            ·rw [if_neg c28] at H
             exact absurd H (by simp)
           ·replace c27:=Bool.eq_false_iff.mpr c27
            subst c27
            have H1 : (some (([] : List (S55)),false)) = some (r1,r2):=by rw [if_neg (show ¬ (false = true) by decide)] at H;exact H
            clear H
            have H:=H1
            clear H1
            simp only [Option.some.injEq,Prod.mk.injEq] at H
            obtain ⟨rfl,rfl⟩:=H
            have p291 : 0 ≤ (x26_1 : Int):=of_decide_eq_true (by first|(with_reducible assumption) | assumption)
            have q291 : x26_1 < (t288.length : Int):=of_decide_eq_true (by first|(with_reducible assumption) | assumption)
            obtain ⟨ad291,e291,hx291_0⟩:=Kd.at_string (Kd.R_reads' HO_24.out).2.2 x26_1 p291 q291
            cases e291
            replace p291:=eq_true p291
            replace q291:=eq_true q291
            go_wp2_with (first|((with_reducible refine gate_callee (f:=66) rfl ?_);refine goesL_ (some 32) rfl rfl Tryd.func66 (by kernel_rfl) rfl #[.string (rdOf ByteArray.empty t288 x26_1),.string (⟨#[61]⟩ : ByteArray)] rfl (by (try simp only [List.map_toArray,List.map_cons,List.map_nil]);first | done | rfl|(simp only [List.length_drop,List.length_take];rfl)) ?_;(with_reducible refine (strings_Cut.calls (rdOf ByteArray.empty t288 x26_1) (⟨#[61]⟩ : ByteArray) t292 t293 t294 _ A18.out).mono ?_);rintro e w' ⟨rfl,⟨nd,rfl⟩⟩;refine ⟨_,rfl,?_⟩)|((with_reducible refine gate_callee (f:=51) rfl ?_);refine goesL_ (some 38) rfl rfl Tryd.func51 (by kernel_rfl) rfl #[.string t292] rfl (by (try simp only [List.map_toArray,List.map_cons,List.map_nil]);first | done | rfl|(simp only [List.length_drop,List.length_take];rfl)) ?_;(with_reducible refine (impl_unescape.calls k1 t292 t295 true _ A19.out).mono ?_);rintro e w32 ⟨rfl,hb⟩;refine ⟨_,rfl,?_⟩;have n0_:=aMk (Kd.R_below (by (with_reducible repeat (first|apply Kd.R_alloc|apply Kd.R_drewN|apply Kd.R_drew));exact HO_4.out) hb);have n1_:=aMk (Kd.R_below (by (with_reducible repeat (first|apply Kd.R_alloc|apply Kd.R_drewN|apply Kd.R_drew));exact HO_24.out) hb);have n2_:=aMk (below_step (by repeat first|exact HB.out|apply bwA|apply bwN|apply bw1) hb);clear HO_4;clear HO_24;clear HB;have HO_4:=n0_;have HO_24:=n1_;have HB:=n2_;clear n0_ n1_ n2_;(try clear hb);(try clear hb2);(try clear hk);(try clear hi))|((with_reducible refine gate_callee (f:=51) rfl ?_);refine goesL_ (some 43) rfl rfl Tryd.func51 (by kernel_rfl) rfl #[.string t293] rfl (by (try simp only [List.map_toArray,List.map_cons,List.map_nil]);first | done | rfl|(simp only [List.length_drop,List.length_take];rfl)) ?_;(with_reducible refine (impl_unescape.calls k1 t293 t297 false _ A20.out).mono ?_);rintro e w33 ⟨rfl,hb⟩;refine ⟨_,rfl,?_⟩;have n0_:=aMk (Kd.R_below (by (with_reducible repeat (first|apply Kd.R_alloc|apply Kd.R_drewN|apply Kd.R_drew));exact HO_4.out) hb);have n1_:=aMk (Kd.R_below (by (with_reducible repeat (first|apply Kd.R_alloc|apply Kd.R_drewN|apply Kd.R_drew));exact HO_24.out) hb);have n2_:=aMk (below_step (by repeat first|exact HB.out|apply bwA|apply bwN|apply bw1) hb);clear HO_4;clear HO_24;clear HB;have HO_4:=n0_;have HO_24:=n1_;have HB:=n2_;clear n0_ n1_ n2_;(try clear hb);(try clear hb2);(try clear hk);(try clear hi))|((with_reducible refine gate_callee (f:=67) rfl ?_);refine goesL_ (some 47) rfl rfl Tryd.func67 (by kernel_rfl) rfl #[.string (rdOf ByteArray.empty t288 x26_1),.string (⟨#[61]⟩ : ByteArray)] rfl (by (try simp only [List.map_toArray,List.map_cons,List.map_nil]);first | done | rfl|(simp only [List.length_drop,List.length_take];rfl)) ?_;(with_reducible refine (strings_Count.calls (rdOf ByteArray.empty t288 x26_1) (⟨#[61]⟩ : ByteArray) t299 _ A21.out).mono ?_);rintro e w' ⟨rfl,⟨nd,rfl⟩⟩;refine ⟨_,rfl,?_⟩))
            go_ret2
            exact ⟨_,by first | rfl|(simp [errW_none,errW_some] <;> rfl)|(simp [*,errW_none,errW_some] <;> rfl),by first|exact Kd.R_nil _ _ _ _ _|exact Kd.N_nil _ _ _ _ _|exact Kd.V_nil _ _ _ _ _|exact Kd.Q_nil _ _ _ _ _|exact Kd.S_nil _ _ _ _ _,by repeat (first|(with_reducible first|exact HB.out|apply bwA|apply bwN|apply bw1)|exact HB.out)⟩
          ·replace c26:=Bool.eq_false_iff.mpr c26
           subst c26
           have H1 : (some (([] : List (S55)),false)) = some (r1,r2):=by rw [if_neg (show ¬ (false = true) by decide)] at H;exact H
           clear H
           have H:=H1
           clear H1
           simp only [Option.some.injEq,Prod.mk.injEq] at H
           obtain ⟨rfl,rfl⟩:=H
           have p291 : 0 ≤ (x26_1 : Int):=of_decide_eq_true (by first|(with_reducible assumption) | assumption)
           have q291 : x26_1 < (t288.length : Int):=of_decide_eq_true (by first|(with_reducible assumption) | assumption)
           obtain ⟨ad291,e291,hx291_0⟩:=Kd.at_string (Kd.R_reads' HO_24.out).2.2 x26_1 p291 q291
           cases e291
           replace p291:=eq_true p291
           replace q291:=eq_true q291
           go_wp2_with (first|((with_reducible refine gate_callee (f:=66) rfl ?_);refine goesL_ (some 32) rfl rfl Tryd.func66 (by kernel_rfl) rfl #[.string (rdOf ByteArray.empty t288 x26_1),.string (⟨#[61]⟩ : ByteArray)] rfl (by (try simp only [List.map_toArray,List.map_cons,List.map_nil]);first | done | rfl|(simp only [List.length_drop,List.length_take];rfl)) ?_;(with_reducible refine (strings_Cut.calls (rdOf ByteArray.empty t288 x26_1) (⟨#[61]⟩ : ByteArray) t292 t293 t294 _ A18.out).mono ?_);rintro e w' ⟨rfl,⟨nd,rfl⟩⟩;refine ⟨_,rfl,?_⟩)|((with_reducible refine gate_callee (f:=51) rfl ?_);refine goesL_ (some 38) rfl rfl Tryd.func51 (by kernel_rfl) rfl #[.string t292] rfl (by (try simp only [List.map_toArray,List.map_cons,List.map_nil]);first | done | rfl|(simp only [List.length_drop,List.length_take];rfl)) ?_;(with_reducible refine (impl_unescape.calls k1 t292 t295 false _ A19.out).mono ?_);rintro e w34 ⟨rfl,hb⟩;refine ⟨_,rfl,?_⟩;have n0_:=aMk (Kd.R_below (by (with_reducible repeat (first|apply Kd.R_alloc|apply Kd.R_drewN|apply Kd.R_drew));exact HO_4.out) hb);have n1_:=aMk (Kd.R_below (by (with_reducible repeat (first|apply Kd.R_alloc|apply Kd.R_drewN|apply Kd.R_drew));exact HO_24.out) hb);have n2_:=aMk (below_step (by repeat first|exact HB.out|apply bwA|apply bwN|apply bw1) hb);clear HO_4;clear HO_24;clear HB;have HO_4:=n0_;have HO_24:=n1_;have HB:=n2_;clear n0_ n1_ n2_;(try clear hb);(try clear hb2);(try clear hk);(try clear hi))|((with_reducible refine gate_callee (f:=51) rfl ?_);refine goesL_ (some 43) rfl rfl Tryd.func51 (by kernel_rfl) rfl #[.string t293] rfl (by (try simp only [List.map_toArray,List.map_cons,List.map_nil]);first | done | rfl|(simp only [List.length_drop,List.length_take];rfl)) ?_;(with_reducible refine (impl_unescape.calls k1 t293 t297 t298 _ A20.out).mono ?_);rintro e w35 ⟨rfl,hb⟩;refine ⟨_,rfl,?_⟩;have n0_:=aMk (Kd.R_below (by (with_reducible repeat (first|apply Kd.R_alloc|apply Kd.R_drewN|apply Kd.R_drew));exact HO_4.out) hb);have n1_:=aMk (Kd.R_below (by (with_reducible repeat (first|apply Kd.R_alloc|apply Kd.R_drewN|apply Kd.R_drew));exact HO_24.out) hb);have n2_:=aMk (below_step (by repeat first|exact HB.out|apply bwA|apply bwN|apply bw1) hb);clear HO_4;clear HO_24;clear HB;have HO_4:=n0_;have HO_24:=n1_;have HB:=n2_;clear n0_ n1_ n2_;(try clear hb);(try clear hb2);(try clear hk);(try clear hi))|((with_reducible refine gate_callee (f:=67) rfl ?_);refine goesL_ (some 47) rfl rfl Tryd.func67 (by kernel_rfl) rfl #[.string (rdOf ByteArray.empty t288 x26_1),.string (⟨#[61]⟩ : ByteArray)] rfl (by (try simp only [List.map_toArray,List.map_cons,List.map_nil]);first | done | rfl|(simp only [List.length_drop,List.length_take];rfl)) ?_;(with_reducible refine (strings_Count.calls (rdOf ByteArray.empty t288 x26_1) (⟨#[61]⟩ : ByteArray) t299 _ A21.out).mono ?_);rintro e w' ⟨rfl,⟨nd,rfl⟩⟩;refine ⟨_,rfl,?_⟩))
           go_ret2
           exact ⟨_,by first | rfl|(simp [errW_none,errW_some] <;> rfl)|(simp [*,errW_none,errW_some] <;> rfl),by first|exact Kd.R_nil _ _ _ _ _|exact Kd.N_nil _ _ _ _ _|exact Kd.V_nil _ _ _ _ _|exact Kd.Q_nil _ _ _ _ _|exact Kd.S_nil _ _ _ _ _,by repeat (first|(with_reducible first|exact HB.out|apply bwA|apply bwN|apply bw1)|exact HB.out)⟩
        ·rw [if_neg c22] at H
         have c22b0 : (t299 == 1) = false:=beq_eq_false_iff_ne.mpr c22
         have c22b1 : (t299 != 1) = true:=bne_iff_ne.mpr c22
         simp only [Option.some.injEq,Prod.mk.injEq] at H
         obtain ⟨rfl,rfl⟩:=H
         have p291 : 0 ≤ (x26_1 : Int):=of_decide_eq_true (by first|(with_reducible assumption) | assumption)
         have q291 : x26_1 < (t288.length : Int):=of_decide_eq_true (by first|(with_reducible assumption) | assumption)
         obtain ⟨ad291,e291,hx291_0⟩:=Kd.at_string (Kd.R_reads' HO_24.out).2.2 x26_1 p291 q291
         cases e291
         replace p291:=eq_true p291
         replace q291:=eq_true q291
         go_wp2_with (first|((with_reducible refine gate_callee (f:=66) rfl ?_);refine goesL_ (some 32) rfl rfl Tryd.func66 (by kernel_rfl) rfl #[.string (rdOf ByteArray.empty t288 x26_1),.string (⟨#[61]⟩ : ByteArray)] rfl (by (try simp only [List.map_toArray,List.map_cons,List.map_nil]);first | done | rfl|(simp only [List.length_drop,List.length_take];rfl)) ?_;(with_reducible refine (strings_Cut.calls (rdOf ByteArray.empty t288 x26_1) (⟨#[61]⟩ : ByteArray) t292 t293 t294 _ A18.out).mono ?_);rintro e w' ⟨rfl,⟨nd,rfl⟩⟩;refine ⟨_,rfl,?_⟩)|((with_reducible refine gate_callee (f:=51) rfl ?_);refine goesL_ (some 38) rfl rfl Tryd.func51 (by kernel_rfl) rfl #[.string t292] rfl (by (try simp only [List.map_toArray,List.map_cons,List.map_nil]);first | done | rfl|(simp only [List.length_drop,List.length_take];rfl)) ?_;(with_reducible refine (impl_unescape.calls k1 t292 t295 t296 _ A19.out).mono ?_);rintro e w36 ⟨rfl,hb⟩;refine ⟨_,rfl,?_⟩;have n0_:=aMk (Kd.R_below (by (with_reducible repeat (first|apply Kd.R_alloc|apply Kd.R_drewN|apply Kd.R_drew));exact HO_4.out) hb);have n1_:=aMk (Kd.R_below (by (with_reducible repeat (first|apply Kd.R_alloc|apply Kd.R_drewN|apply Kd.R_drew));exact HO_24.out) hb);have n2_:=aMk (below_step (by repeat first|exact HB.out|apply bwA|apply bwN|apply bw1) hb);clear HO_4;clear HO_24;clear HB;have HO_4:=n0_;have HO_24:=n1_;have HB:=n2_;clear n0_ n1_ n2_;(try clear hb);(try clear hb2);(try clear hk);(try clear hi))|((with_reducible refine gate_callee (f:=51) rfl ?_);refine goesL_ (some 43) rfl rfl Tryd.func51 (by kernel_rfl) rfl #[.string t293] rfl (by (try simp only [List.map_toArray,List.map_cons,List.map_nil]);first | done | rfl|(simp only [List.length_drop,List.length_take];rfl)) ?_;(with_reducible refine (impl_unescape.calls k1 t293 t297 t298 _ A20.out).mono ?_);rintro e w37 ⟨rfl,hb⟩;refine ⟨_,rfl,?_⟩;have n0_:=aMk (Kd.R_below (by (with_reducible repeat (first|apply Kd.R_alloc|apply Kd.R_drewN|apply Kd.R_drew));exact HO_4.out) hb);have n1_:=aMk (Kd.R_below (by (with_reducible repeat (first|apply Kd.R_alloc|apply Kd.R_drewN|apply Kd.R_drew));exact HO_24.out) hb);have n2_:=aMk (below_step (by repeat first|exact HB.out|apply bwA|apply bwN|apply bw1) hb);clear HO_4;clear HO_24;clear HB;have HO_4:=n0_;have HO_24:=n1_;have HB:=n2_;clear n0_ n1_ n2_;(try clear hb);(try clear hb2);(try clear hk);(try clear hi))|((with_reducible refine gate_callee (f:=67) rfl ?_);refine goesL_ (some 47) rfl rfl Tryd.func67 (by kernel_rfl) rfl #[.string (rdOf ByteArray.empty t288 x26_1),.string (⟨#[61]⟩ : ByteArray)] rfl (by (try simp only [List.map_toArray,List.map_cons,List.map_nil]);first | done | rfl|(simp only [List.length_drop,List.length_take];rfl)) ?_;(with_reducible refine (strings_Count.calls (rdOf ByteArray.empty t288 x26_1) (⟨#[61]⟩ : ByteArray) t299 _ A21.out).mono ?_);rintro e w' ⟨rfl,⟨nd,rfl⟩⟩;refine ⟨_,rfl,?_⟩))
         go_ret2
         exact ⟨_,by first | rfl|(simp [errW_none,errW_some] <;> rfl)|(simp [*,errW_none,errW_some] <;> rfl),by first|exact Kd.R_nil _ _ _ _ _|exact Kd.N_nil _ _ _ _ _|exact Kd.V_nil _ _ _ _ _|exact Kd.Q_nil _ _ _ _ _|exact Kd.S_nil _ _ _ _ _,by repeat (first|(with_reducible first|exact HB.out|apply bwA|apply bwN|apply bw1)|exact HB.out)⟩
       ·rw [if_neg c17] at H
        exact absurd H (by simp)
      ·rw [if_neg c16] at H
       exact absurd H (by simp)
     ·rw [if_neg c15] at H
      have c15b0 : decide (x26_1 < (t288.length : Int)) = false:=decide_eq_false c15
      clear c15
      simp only [Option.some.injEq,Prod.mk.injEq] at H
      obtain ⟨rfl,rfl⟩:=H
      go_wp2
      go_ret2
      exact ⟨_,by first | rfl|(simp [errW_none,errW_some] <;> rfl)|(simp [*,errW_none,errW_some] <;> rfl),by (with_reducible repeat (first|apply Kd.R_alloc|apply Kd.R_drewN|apply Kd.R_drew));exact HO_4.out,by repeat (first|(with_reducible first|exact HB.out|apply bwA|apply bwN|apply bw1)|exact HB.out)⟩
end
section
/-! ### impl_ReadForm: function 15 -/
def impl_ReadForm.f (k : Nat) (a0 : ByteArray) : Option ((List (S55)) × Int):=if (a0.size : Int) > 65536 then (some (([] : List (S55)),2)) else ((impl_readForm.f k a0).bind fun bt303 => (if bt303.2 = true then (some (bt303.1,0)) else (some (([] : List (S55)),3))))
theorem impl_ReadForm.mono : ∀ a0 k,LeO (impl_ReadForm.f k a0) (impl_ReadForm.f (k + 1) a0):=by
 intro a0 k
 unfold impl_ReadForm.f
 repeat' first
   | (with_reducible exact impl_readForm.mono ..)
   | (with_reducible exact LeO.refl _)
   | (with_reducible exact LeO.none _)
   | (with_reducible refine LeO.ite ?_ ?_)
   | (with_reducible refine LeO.bind ?_ (fun _ => ?_))
   | exact impl_readForm.mono ..
   | exact LeO.none _
   | refine LeO.ite ?_ ?_
   | refine LeO.bind ?_ (fun _ => ?_)
set_option maxHeartbeats 8000000 in
set_option maxRecDepth 100000 in
theorem impl_ReadForm.calls (k : Nat) (a0 : ByteArray) (r1 : List (S55)) (r2 : Int) (w : World) (h : impl_ReadForm.f k a0 = some (r1,r2)) :
  Calls Tryd.prog 15 #[.string a0] w fun e w' => ∃ v0_ : Value,e = .returned (.tuple #[v0_,.int .i64 r2]) ∧ Kd.R k55 55 w' w.heap.size (fun _ => True) v0_ r1 ∧ Below w.heap.size w w':=by
 have HB:=aMk (Below.refl w.heap.size w)
 have H : (if (a0.size : Int) > 65536 then (some (([] : List (S55)),2)) else ((impl_readForm.f k a0).bind fun bt303 => (if bt303.2 = true then (some (bt303.1,0)) else (some (([] : List (S55)),3))))) = some (r1,r2):=h
 clear h
 by_cases c2 : (a0.size : Int) > 65536
 ·rw [if_pos c2] at H
  have c2b0 : decide (65536 < (a0.size : Int)) = true:=decide_eq_true c2
  have c2b1 : decide (65536 < a0.size) = true:=decide_eq_true (by omega)
  clear c2
  simp only [Option.some.injEq,Prod.mk.injEq] at H
  obtain ⟨rfl,rfl⟩:=H
  go_enter Tryd.func15,Tryd.ntmps15
  go_wp2
  go_ret2
  exact ⟨_,by first | rfl|(simp [errW_none,errW_some] <;> rfl)|(simp [*,errW_none,errW_some] <;> rfl),by first|exact Kd.R_nil _ _ _ _ _|exact Kd.N_nil _ _ _ _ _|exact Kd.V_nil _ _ _ _ _|exact Kd.Q_nil _ _ _ _ _|exact Kd.S_nil _ _ _ _ _,by repeat (first|(with_reducible first|exact HB.out|apply bwA|apply bwN|apply bw1)|exact HB.out)⟩
 ·rw [if_neg c2] at H
  have c2b0 : decide (65536 < (a0.size : Int)) = false:=decide_eq_false c2
  have c2b1 : decide (65536 < a0.size) = false:=decide_eq_false (by omega)
  clear c2
  replace H:=Option.bind_eq_some_iff.mp H
  obtain ⟨⟨t303,t304⟩,A30,H⟩:=H
  replace H : (if t304 = true then (some (t303,0)) else (some (([] : List (S55)),3))) = some (r1,r2):=H
  have A3:=aMk A30
  clear A30
  by_cases c4 : t304 = true
  ·subst c4
   have H1 : (some (t303,0)) = some (r1,r2):=by rw [if_pos rfl] at H;exact H
   clear H
   have H:=H1
   clear H1
   simp only [Option.some.injEq,Prod.mk.injEq] at H
   obtain ⟨rfl,rfl⟩:=H
   go_enter Tryd.func15,Tryd.ntmps15
   go_wp2_with (first|((with_reducible refine gate_callee (f:=41) rfl ?_);refine goesL_ (some 11) rfl rfl Tryd.func41 (by kernel_rfl) rfl #[.string a0] rfl (by (try simp only [List.map_toArray,List.map_cons,List.map_nil]);first | done | rfl|(simp only [List.length_drop,List.length_take];rfl)) ?_;(with_reducible refine (impl_readForm.calls k a0 t303 true _ A3.out).mono ?_);rintro e w5 ⟨v305,rfl,ho0,hb⟩;refine ⟨_,rfl,?_⟩;have n0_:=aMk (Kd.R_lower ho0 (below_size (by repeat first|exact HB.out|apply bwA|apply bwN|apply bw1)));have n1_:=aMk (below_step (by repeat first|exact HB.out|apply bwA|apply bwN|apply bw1) hb);clear HB;have HO306:=n0_;have HB:=n1_;clear n0_ n1_;(try clear hb);(try clear hb2);(try clear hk);(try clear hi);(try clear ho0)))
   go_ret2
   exact ⟨_,by first | rfl|(simp [errW_none,errW_some] <;> rfl)|(simp [*,errW_none,errW_some] <;> rfl),by (with_reducible repeat (first|apply Kd.R_alloc|apply Kd.R_drewN|apply Kd.R_drew));exact HO306.out,by repeat (first|(with_reducible first|exact HB.out|apply bwA|apply bwN|apply bw1)|exact HB.out)⟩
  ·replace c4:=Bool.eq_false_iff.mpr c4
   subst c4
   have H1 : (some (([] : List (S55)),3)) = some (r1,r2):=by rw [if_neg (show ¬ (false = true) by decide)] at H;exact H
   clear H
   have H:=H1
   clear H1
   simp only [Option.some.injEq,Prod.mk.injEq] at H
   obtain ⟨rfl,rfl⟩:=H
   go_enter Tryd.func15,Tryd.ntmps15
   go_wp2_with (first|((with_reducible refine gate_callee (f:=41) rfl ?_);refine goesL_ (some 11) rfl rfl Tryd.func41 (by kernel_rfl) rfl #[.string a0] rfl (by (try simp only [List.map_toArray,List.map_cons,List.map_nil]);first | done | rfl|(simp only [List.length_drop,List.length_take];rfl)) ?_;(with_reducible refine (impl_readForm.calls k a0 t303 false _ A3.out).mono ?_);rintro e w6 ⟨v305,rfl,ho0,hb⟩;refine ⟨_,rfl,?_⟩;have n0_:=aMk (Kd.R_lower ho0 (below_size (by repeat first|exact HB.out|apply bwA|apply bwN|apply bw1)));have n1_:=aMk (below_step (by repeat first|exact HB.out|apply bwA|apply bwN|apply bw1) hb);clear HB;have HO306:=n0_;have HB:=n1_;clear n0_ n1_;(try clear hb);(try clear hb2);(try clear hk);(try clear hi);(try clear ho0)))
   go_ret2
   exact ⟨_,by first | rfl|(simp [errW_none,errW_some] <;> rfl)|(simp [*,errW_none,errW_some] <;> rfl),by first|exact Kd.R_nil _ _ _ _ _|exact Kd.N_nil _ _ _ _ _|exact Kd.V_nil _ _ _ _ _|exact Kd.Q_nil _ _ _ _ _|exact Kd.S_nil _ _ _ _ _,by repeat (first|(with_reducible first|exact HB.out|apply bwA|apply bwN|apply bw1)|exact HB.out)⟩
end
section
/-- A state of type 74 at block g of W;what its slices lead to came in by w0. -/
def IsS74 (w0 W : World) (g : Nat) (f0 : List Int) (f1 : Int) (f2 : Int) : Prop:=∃ A0 c0,W.heap[g]? = some (.cells #[.slice A0 f0.length c0,.int .i64 f1,.int .i64 f2] 74 (0,0)) ∧ w0.heap.size ≤ g ∧ Kd.C (Kd.int .u8) w0 A0 f0.length f0
theorem IsS74.grown {w0 W : World} {g : Nat} {f0 : List Int} {f1 : Int} {f2 : Int} {W1 : World} {row : Option Nat} (h : IsS74 w0 W g f0 f1 f2) (hw : W.grownBy W1 row) (hne : some g ≠ row) : IsS74 w0 W1 g f0 f1 f2:=by
 obtain ⟨A0,c0,hb,hg,hr0⟩:=h
 exact ⟨A0,c0,blk_grown hb hw hne,hg,hr0⟩
theorem IsS74.kept {w0 W : World} {g : Nat} {f0 : List Int} {f1 : Int} {f2 : Int} {W1 : World} {S : Nat → Prop} (h : IsS74 w0 W g f0 f1 f2) (hk : Kept W W1 S) (hne : ¬ S g) : IsS74 w0 W1 g f0 f1 f2:=by
 obtain ⟨A0,c0,hb,hg,hr0⟩:=h
 exact ⟨A0,c0,blk_kept hb hk hne,hg,hr0⟩
theorem IsS74.below {w0 W : World} {g : Nat} {f0 : List Int} {f1 : Int} {f2 : Int} {W1 : World} (h : IsS74 w0 W g f0 f1 f2) (hw : Below W.heap.size W W1) : IsS74 w0 W1 g f0 f1 f2:=h.grown (grown_of_below hw none) (by simp)
theorem IsS74.alloc {w0 W : World} {g : Nat} {f0 : List Int} {f1 : Int} {f2 : Int} (h : IsS74 w0 W g f0 f1 f2) (o : Obj) : IsS74 w0 (W.alloc o) g f0 f1 f2:=h.below (bwA (Below.refl _ _) o)
theorem IsS74.drewN {w0 W : World} {g : Nat} {f0 : List Int} {f1 : Int} {f2 : Int} (h : IsS74 w0 W g f0 f1 f2) (m : Nat) : IsS74 w0 (W.drewN m) g f0 f1 f2:=h
theorem IsS74.drew {w0 W : World} {g : Nat} {f0 : List Int} {f1 : Int} {f2 : Int} (h : IsS74 w0 W g f0 f1 f2) : IsS74 w0 W.drew g f0 f1 f2:=h
theorem IsS74.at_ {w0 W : World} {g : Nat} {f0 : List Int} {f1 : Int} {f2 : Int} {w' : World} {m : Nat} (hq : W.drewN m = w') (h : IsS74 w0 W g f0 f1 f2) : IsS74 w0 w' g f0 f1 f2:=by subst hq;exact IsS74.drewN h m
theorem IsS74.apart {w0 W : World} {g : Nat} {f0 : List Int} {f1 : Int} {f2 : Int} {α : Type} {d : Kd α} {e : Nat} {base : Nat} {ok : Nat → Prop} {v : Value} {xs : List α} (h : IsS74 w0 W g f0 f1 f2) (ho : d.R e W base ok v xs) (ht : ∀ q,q ∈ e :: d.E → q ≠ 74) : d.R e W base (fun k => ok k ∧ k ≠ g) v xs:=by
 obtain ⟨A0,c0,hb,hg,hr0⟩:=h
 exact Kd.R_types ho hb ht
theorem IsS74.own_ne {w0 W : World} {g : Nat} {f0 : List Int} {f1 : Int} {f2 : Int} {α : Type} {d : Kd α} {e : Nat} {base : Nat} {ok : Nat → Prop} {v : Value} {xs : List α} (h : IsS74 w0 W g f0 f1 f2) (ho : d.R e W base ok v xs) (ht : e ≠ 74) : some g ≠ v.ownBlock:=by
 obtain ⟨A0,c0,hb,hg,hr0⟩:=h
 exact Kd.R_ne ho hb ht
theorem IsS74.ge {w0 W : World} {g : Nat} {f0 : List Int} {f1 : Int} {f2 : Int} (h : IsS74 w0 W g f0 f1 f2) : w0.heap.size ≤ g:=by
 obtain ⟨A0,c0,hb,hg,hr0⟩:=h
 exact hg
theorem IsS74.far {w0 W : World} {g : Nat} {f0 : List Int} {f1 : Int} {f2 : Int} {p : Addr} (h : IsS74 w0 W g f0 f1 f2) (hne : g ≠ p.block) (u : Value) : IsS74 w0 (W.setCell p u) g f0 f1 f2:=by
 obtain ⟨A0,c0,hb,hg,hr0⟩:=h
 exact ⟨A0,c0,blk_far hb hne u,hg,hr0⟩
theorem cellS74_0 {W : World} {g : Nat} {A0 : Option Addr} {c0 : Nat} {f0 : List Int} {f1 : Int} {f2 : Int} (h : W.heap[g]? = some (.cells #[.slice A0 f0.length c0,.int .i64 f1,.int .i64 f2] 74 (0,0))) : W.cell? ⟨g,0,none⟩ = some (.slice A0 f0.length c0):=(bCe h 0).trans rfl
theorem cellS74_1 {W : World} {g : Nat} {A0 : Option Addr} {c0 : Nat} {f0 : List Int} {f1 : Int} {f2 : Int} (h : W.heap[g]? = some (.cells #[.slice A0 f0.length c0,.int .i64 f1,.int .i64 f2] 74 (0,0))) : W.cell? ⟨g,1,none⟩ = some (.int .i64 f1):=(bCe h 1).trans rfl
theorem IsS74.set_1 {w0 W : World} {g : Nat} {f0 : List Int} {f1 : Int} {f2 : Int} (h : IsS74 w0 W g f0 f1 f2) (x : Int) : IsS74 w0 (W.setCell ⟨g,1,none⟩ (.int .i64 x)) g f0 x f2:=by
 obtain ⟨A0,c0,hb,hg,hr0⟩:=h
 exact ⟨A0,c0,by simpa using blk_set hb 1 (.int .i64 x),hg,hr0⟩
theorem cellS74_2 {W : World} {g : Nat} {A0 : Option Addr} {c0 : Nat} {f0 : List Int} {f1 : Int} {f2 : Int} (h : W.heap[g]? = some (.cells #[.slice A0 f0.length c0,.int .i64 f1,.int .i64 f2] 74 (0,0))) : W.cell? ⟨g,2,none⟩ = some (.int .i64 f2):=(bCe h 2).trans rfl
theorem IsS74.set_2 {w0 W : World} {g : Nat} {f0 : List Int} {f1 : Int} {f2 : Int} (h : IsS74 w0 W g f0 f1 f2) (x : Int) : IsS74 w0 (W.setCell ⟨g,2,none⟩ (.int .i64 x)) g f0 f1 x:=by
 obtain ⟨A0,c0,hb,hg,hr0⟩:=h
 exact ⟨A0,c0,by simpa using blk_set hb 2 (.int .i64 x),hg,hr0⟩
theorem IsS74.new (w0 W : World) (A0 : Option Addr) (c0 : Nat) (f0 : List Int) (f1 : Int) (f2 : Int) (hB : Below w0.heap.size w0 W) (hr0 : Kd.C (Kd.int .u8) w0 A0 f0.length f0) : IsS74 w0 (W.alloc (.cells #[.slice A0 f0.length c0,.int .i64 f1,.int .i64 f2] 74)) W.heap.size f0 f1 f2:=⟨A0,c0,by simpa using heap_alloc_new W _,hB.size,hr0⟩
end
section
/-! ### spec_l00Source: function 44 -/
def spec_l00Source.f (l0 : List Int) : Option (List Int × Int × Int):=some (l0,0,(l0.length : Int) % 1000)
set_option maxHeartbeats 8000000 in
set_option maxRecDepth 100000 in
theorem spec_l00Source.calls (A0 : Option Addr) (c0 : Nat) (l0 : List Int) (r1 : List Int) (r2 : Int) (r3 : Int) (w0 w : World) (hB : Below w0.heap.size w0 w) (hr0 : Kd.C (Kd.int .u8) w0 A0 l0.length l0) (hc0 : l0.length ≤ c0) (h : spec_l00Source.f l0 = some (r1,r2,r3)) :
  Calls Tryd.prog 44 #[.slice A0 l0.length c0] w fun e w' => ∃ g_ : Nat,e = .returned (.pointer (some ⟨g_,0,none⟩)) ∧ IsS74 w0 w' g_ r1 r2 r3 ∧ Below w0.heap.size w0 w' ∧ Below w.heap.size w w':=by
 have hu74:=Tryd.underlying74
 have HR0:=aMk hr0
 have HC0:=aMk hc0
 clear hr0 hc0
 have HBW:=aMk (Below.refl w.heap.size w)
 have HW0:=aMk hB.size
 have HB:=aMk hB
 clear hB
 have H : (some (l0,0,(l0.length : Int) % 1000)) = some (r1,r2,r3):=h
 clear h
 simp only [Option.some.injEq,Prod.mk.injEq] at H
 obtain ⟨rfl,rfl,rfl⟩:=H
 go_enter Tryd.func44,Tryd.ntmps44
 go_wp2_with (first|((with_reducible refine gate_dst (N:=8) rfl ?_);refine box_event ?hg (N:=8) ?hd (cs:=#[.slice A0 l0.length c0,.int .i64 0,.int .i64 ((l0.length : Int) % 1000)]) (t:=74) ?hr ?_;(case hd => rfl);(case hg => rfl);(case hr => first|(go_simp;done)|(go_simp;rfl));intro gb341 hg w2 hbox hb;have n0_:=aMk (below_step HBW.out hb);have n1_:=aMk (below_step (by repeat first|exact HB.out|apply bwA|apply bwN|apply bw1) hb);have n2_:=aMk (hbox);have n3_:=aMk ((by rw [hg];exact (below_size (by repeat (first|(with_reducible first|exact HBW.out|apply bwA|apply bwN|apply bw1)|exact HBW.out))) : w.heap.size ≤ gb341));have n4_:=aMk ((Nat.le_trans HW0.out (by rw [hg];exact (below_size (by repeat (first|(with_reducible first|exact HBW.out|apply bwA|apply bwN|apply bw1)|exact HBW.out))) : w.heap.size ≤ gb341) : w0.heap.size ≤ gb341));clear HBW;clear HB;have HBW:=n0_;have HB:=n1_;have BK341:=n2_;have GW341:=n3_;have GE341:=n4_;clear n0_ n1_ n2_ n3_ n4_;clear hb hbox hg))
 go_ret
 exact ⟨_,rfl,(show IsS74 w0 _ gb341 l0 0 ((l0.length : Int) % 1000) from ⟨_,_,by (with_reducible repeat (first|refine bDn ?_ _|refine bDr ?_|refine bAl ?_ _));exact BK341.out,GE341.out,HR0.out⟩),by repeat (first|(with_reducible first|exact HB.out|apply bwA|apply bwN|apply bw1|refine below_set ?_ GE341.out)|exact HB.out),by repeat (first|(with_reducible first|exact HBW.out|apply bwA|apply bwN|apply bw1|refine below_set ?_ GW341.out)|exact HBW.out)⟩
end
section
/-! ### spec_l00Src_byte: function 89 -/
-- IMPORT Derived.Deep.QuietTactic
-- IMPORT Derived.BigQuiet
-- IMPORT Derived.RegionTactic
-- IMPORT Derived.BigRegion
def spec_l00Src_byte.f (s0_0 : List Int) (s0_1 : Int) (s0_2 : Int) : Option (Int × Int × Int) :=
 if wrap64 (s0_1 + 1) ≤ (s0_0.length : Int) then
  (if 1 ≤ wrap64 (s0_1 + 1) then some (wrap64 (rd s0_0 (wrap64 (wrap64 (s0_1 + 1) - 1))),wrap64 (s0_1 + 1),Int.tmod (wrap64 (wrap64 (wrap64 (s0_2 * 31) + wrap64 (rd s0_0 (wrap64 (wrap64 (s0_1 + 1) - 1)))) + 7)) 2147483648) else none)
 else if wrap64 (s0_1 + 1) > 3000 then some (0,wrap64 (s0_1 + 1),s0_2)
 else some (Int.tmod (wrap64 (Int.tdiv (Int.tmod (wrap64 (wrap64 (s0_2 * 1103515245) + 12345)) 2147483648) 65536)) 256,wrap64 (s0_1 + 1),Int.tmod (wrap64 (wrap64 (s0_2 * 1103515245) + 12345)) 2147483648)
set_option maxHeartbeats 8000000 in
set_option maxRecDepth 100000 in
theorem spec_l00Src_byte.calls (g : Nat) (s0_0 : List Int) (s0_1 : Int) (s0_2 : Int) (r1 : Int) (r2 : Int) (r3 : Int) (w0 w : World) (hI : IsS74 w0 w g s0_0 s0_1 s0_2) (hB : Below w0.heap.size w0 w) (h : spec_l00Src_byte.f s0_0 s0_1 s0_2 = some (r1,r2,r3)) :
  Calls Tryd.prog 89 #[.pointer (some ⟨g,0,none⟩)] w fun e w' => e = .returned (.int .i64 r1) ∧ IsS74 w0 w' g s0_0 r2 r3 ∧ Below w0.heap.size w0 w' ∧ KeepBut w w' g none:=by
 have hu74:=Tryd.underlying74
 have HI0:=aMk hI
 have HB0:=aMk hB
 have HH:=aMk h
 clear h hB
 obtain ⟨A1,c1,hb,hg,hr1⟩:=hI
 have HC:=aMk hr1
 have HG:=aMk hg
 clear hr1 hg
 have hc1:=cellS74_1 hb
 have hf1:=bFr hb 1
 clear hb
 go_enter Tryd.func89,Tryd.ntmps89
 go_wp2
 have n1:=aMk (IsS74.set_1 HI0.out (wrap64 (s0_1 + 1)))
 have n2:=aMk (below_set HB0.out HG.out (j:=1) (v:=.int .i64 (wrap64 (s0_1 + 1))))
 have n3:=aMk ((KeepBut.refl w g none).set_ 1 (.int .i64 (wrap64 (s0_1 + 1))))
 clear hc1 hf1 HI0 HB0
 generalize w.setCell ⟨g,1,none⟩ (.int .i64 (wrap64 (s0_1 + 1))) = w1 at n1 n2 n3 ⊢
 rw [spec_l00Src_byte.f] at HH
 generalize wrap64 (s0_1 + 1) = t at HH n1
 obtain ⟨A2,c2,hb,hg,hr2⟩:=n1.out
 have e1:=cellS74_1 hb
 have e0:=cellS74_0 hb
 have e2:=cellS74_2 hb
 have f2:=bFr hb 2
 have HG2:=aMk hg
 have HR:=aMk (Kd.C_below hr2 n2.out)
 have HC2:=aMk hr2
 clear hb hg hr2
 by_cases k1 : t ≤ (s0_0.length : Int)
 ·have d1 : decide (t ≤ (s0_0.length : Int)) = true:=decide_eq_true k1
  have H:=HH.out
  clear HH
  simp only [if_pos k1] at H
  by_cases k2 : 1 ≤ t
  ·rw [if_pos k2] at H
   have hw : wrap64 (t - 1) = t - 1:=by
    have:=HR.out.2.1
    unfold wrap64
    omega
   have hw2 : IntKind.i64.wrap (t - 1) = t - 1:=by rw [i64_w];exact hw
   rw [hw] at H
   simp only [Option.some.injEq,Prod.mk.injEq] at H
   obtain ⟨rfl,rfl,rfl⟩:=H
   obtain ⟨ad,rfl,hx⟩:=Kd.at_int HR.out (t - 1) (by omega) (by omega)
   have p1 : (0 : Int) ≤ t - 1:=by omega
   have q1 : t - 1 < (s0_0.length : Int):=by omega
   go_quiet (fail)
   go_wp2
   have m1:=aMk (IsS74.drewN n1.out nq)
   have g0 : (w1.drewN nq).cell? ⟨g,0,none⟩ = some (.slice (some ad) s0_0.length c2):=e0
   have g1 : (w1.drewN nq).cell? ⟨g,1,none⟩ = some (.int .i64 t):=e1
   have g2 : (w1.drewN nq).cell? ⟨g,2,none⟩ = some (.int .i64 s0_2):=e2
   have g3 : (w1.drewN nq).frozen? ⟨g,2,none⟩ = false:=f2
   have g4 : (w1.drewN nq).cell? (ad.add (t - 1).toNat) = some (Value.int .u8 (rd s0_0 (t - 1))):=hx
   have m2:=aMk (bwN n2.out nq)
   have m3:=aMk (keep_drewN n3.out nq)
   clear e0 e1 e2 f2 hx n1 n2 n3
   generalize w1.drewN nq = w2 at m1 m2 m3 g0 g1 g2 g3 g4 ⊢
   have g5 : w2.cell? (ad.add (t.toNat - 1)) = some (Value.int .u8 (rd s0_0 (t - 1))):=by rw [show t.toNat - 1 = (t - 1).toNat from by omega];exact g4
   go_region
   obtain ⟨z,hz⟩ : ∃ z,z = Int.tmod (wrap64 (wrap64 (wrap64 (s0_2 * 31) + wrap64 (rd s0_0 (t - 1))) + 7)) 2147483648:=⟨_,rfl⟩
   rw [← hz]
   have l1:=aMk (IsS74.drew (IsS74.set_2 m1.out z))
   have l2:=aMk (bw1 (below_set m2.out HG.out (j:=2) (v:=.int .i64 z)))
   have l3:=aMk (keep_drew (m3.out.set_ 2 (.int .i64 z)))
   have hz_:=aMk hz
   clear g0 g1 g2 g3 g4 g5 m1 m2 m3 hz
   generalize (w2.setCell ⟨g,2,none⟩ (.int .i64 z)).drew = w3 at l1 l2 l3 ⊢
   obtain ⟨A3,c3,hb,hg3,hr3⟩:=l1.out
   have r1:=cellS74_1 hb
   have r0:=cellS74_0 hb
   obtain ⟨ad3,rfl,hx3⟩:=Kd.at_int (Kd.C_below hr3 l2.out) (t - 1) (by omega) (by omega)
   have hx4 : w3.cell? (ad3.add (t.toNat - 1)) = some (Value.int .u8 (rd s0_0 (t - 1))):=by rw [show t.toNat - 1 = (t - 1).toNat from by omega];exact hx3
   clear hb hg3 hr3
   go_wp2
   go_quiet (fail)
   go_wp2
   go_ret
   exact ⟨rfl,by rw [← hz_.out];exact IsS74.drewN l1.out nq,bwN l2.out nq,keep_drewN l3.out nq⟩
  ·rw [if_neg k2] at H
   cases H
 ·have d1 : decide (t ≤ (s0_0.length : Int)) = false:=decide_eq_false k1
  have H:=HH.out
  clear HH
  simp only [if_neg k1] at H
  by_cases k3 : t > 3000
  ·have d3 : decide (t > 3000) = true:=decide_eq_true k3
   rw [if_pos k3] at H
   simp only [Option.some.injEq,Prod.mk.injEq] at H
   obtain ⟨rfl,rfl,rfl⟩:=H
   clear k1 k3
   go_quiet (fail)
   go_wp2
   go_ret
   exact ⟨rfl,IsS74.drewN n1.out nq,bwN n2.out nq,keep_drewN n3.out nq⟩
  ·have d3 : decide (t > 3000) = false:=decide_eq_false k3
   rw [if_neg k3] at H
   simp only [Option.some.injEq,Prod.mk.injEq] at H
   obtain ⟨rfl,rfl,rfl⟩:=H
   clear k1 k3
   go_quiet (fail)
   go_wp2
   go_ret
   exact ⟨rfl,IsS74.set_2 (IsS74.drewN n1.out nq) _,below_set (bwN n2.out nq) HG.out,(keep_drewN n3.out nq).set_ 2 _⟩
end
section
/-! ### spec_l00Src_next: function 68 -/
def spec_l00Src_next.f (s0_0 : List Int) (s0_1 : Int) (s0_2 : Int) (a1 : Int) : Option (Int × Int × Int):=if a1 ≤ 1 then (some (0,s0_1,s0_2)) else (if a1 ≤ 256 then ((spec_l00Src_byte.f s0_0 s0_1 s0_2).bind fun bt342 => (if a1 = 0 then (none) else (some (Int.tmod bt342.1 a1,bt342.2.1,bt342.2.2)))) else ((spec_l00Src_byte.f s0_0 s0_1 s0_2).bind fun bt345 => ((spec_l00Src_byte.f s0_0 bt345.2.1 bt345.2.2).bind fun bt348 => ((spec_l00Src_byte.f s0_0 bt348.2.1 bt348.2.2).bind fun bt351 => (if a1 = 0 then (none) else (some (Int.tmod (wrap64 ((wrap64 ((wrap64 (bt345.1 * 65536)) + (wrap64 (bt348.1 * 256)))) + bt351.1)) a1,bt351.2.1,bt351.2.2)))))))
set_option maxHeartbeats 8000000 in
set_option maxRecDepth 100000 in
theorem spec_l00Src_next.calls (g : Nat) (s0_0 : List Int) (s0_1 : Int) (s0_2 : Int) (a1 : Int) (r1 : Int) (r2 : Int) (r3 : Int) (w0 w : World) (hI : IsS74 w0 w g s0_0 s0_1 s0_2) (hB : Below w0.heap.size w0 w) (h : spec_l00Src_next.f s0_0 s0_1 s0_2 a1 = some (r1,r2,r3)) :
  Calls Tryd.prog 68 #[.pointer (some ⟨g,0,none⟩),.int .i64 a1] w fun e w' => e = .returned (.int .i64 r1) ∧ IsS74 w0 w' g s0_0 r2 r3 ∧ Below w0.heap.size w0 w' ∧ KeepBut w w' g none:=by
 have HI0:=aMk hI
 have HK:=aMk (KeepBut.refl w g none)
 have HL:=aMk hB.size
 clear hI
 have HW0:=aMk hB.size
 have HB:=aMk hB
 clear hB
 have H : (if a1 ≤ 1 then (some (0,s0_1,s0_2)) else (if a1 ≤ 256 then ((spec_l00Src_byte.f s0_0 s0_1 s0_2).bind fun bt342 => (if a1 = 0 then (none) else (some (Int.tmod bt342.1 a1,bt342.2.1,bt342.2.2)))) else ((spec_l00Src_byte.f s0_0 s0_1 s0_2).bind fun bt345 => ((spec_l00Src_byte.f s0_0 bt345.2.1 bt345.2.2).bind fun bt348 => ((spec_l00Src_byte.f s0_0 bt348.2.1 bt348.2.2).bind fun bt351 => (if a1 = 0 then (none) else (some (Int.tmod (wrap64 ((wrap64 ((wrap64 (bt345.1 * 65536)) + (wrap64 (bt348.1 * 256)))) + bt351.1)) a1,bt351.2.1,bt351.2.2)))))))) = some (r1,r2,r3):=h
 clear h
 by_cases c3 : a1 ≤ 1
 ·rw [if_pos c3] at H
  have c3b0 : decide (a1 ≤ 1) = true:=decide_eq_true c3
  clear c3
  simp only [Option.some.injEq,Prod.mk.injEq] at H
  obtain ⟨rfl,rfl,rfl⟩:=H
  go_enter Tryd.func68,Tryd.ntmps68
  go_wp2
  go_ret
  exact ⟨by first | rfl|(simp [errW_none,errW_some] <;> rfl)|(simp [*,errW_none,errW_some] <;> rfl),by repeat (first|(with_reducible first|exact HI0.out|apply IsS74.alloc|apply IsS74.drewN|apply IsS74.drew|apply IsS74.set_1|apply IsS74.set_2)|exact HI0.out),by repeat (first|(with_reducible first|exact HB.out|apply bwA|apply bwN|apply bw1|refine below_set ?_ (IsS74.ge HI0.out))|exact HB.out),by repeat (first|(with_reducible first|exact HK.out|apply KeepBut.set_|apply keep_drewN|apply keep_drew|apply keep_alloc)|exact HK.out)⟩
 ·rw [if_neg c3] at H
  have c3b0 : decide (a1 ≤ 1) = false:=decide_eq_false c3
  clear c3
  by_cases c4 : a1 ≤ 256
  ·rw [if_pos c4] at H
   have c4b0 : decide (a1 ≤ 256) = true:=decide_eq_true c4
   clear c4
   replace H:=Option.bind_eq_some_iff.mp H
   obtain ⟨⟨t342,t343,t344⟩,A50,H⟩:=H
   replace H : (if a1 = 0 then (none) else (some (Int.tmod t342 a1,t343,t344))) = some (r1,r2,r3):=H
   have A5:=aMk A50
   clear A50
   by_cases c6 : a1 = 0
   ·rw [if_pos c6] at H
    exact absurd H (by simp)
   ·rw [if_neg c6] at H
    have c6b0 : (a1 == 0) = false:=beq_eq_false_iff_ne.mpr c6
    have c6b1 : (a1 != 0) = true:=bne_iff_ne.mpr c6
    simp only [Option.some.injEq,Prod.mk.injEq] at H
    obtain ⟨rfl,rfl,rfl⟩:=H
    go_enter Tryd.func68,Tryd.ntmps68
    go_wp2_with (first|((with_reducible refine gate_callee (f:=89) rfl ?_);refine goesL_ (some 13) rfl rfl Tryd.func89 (by kernel_rfl) rfl #[.pointer (some ⟨g,0,none⟩)] rfl (by (try simp only [List.map_toArray,List.map_cons,List.map_nil]);first | done | rfl|(simp only [List.length_drop,List.length_take];rfl)) ?_;(with_reducible refine (spec_l00Src_byte.calls g s0_0 s0_1 s0_2 t342 t343 t344 w0 _ ?side1 ?side2 A5.out).mono ?_);(case side1 => repeat (first|(with_reducible first|exact HI0.out|apply IsS74.alloc|apply IsS74.drewN|apply IsS74.drew|apply IsS74.set_1|apply IsS74.set_2)|exact HI0.out));(case side2 => repeat (first|(with_reducible first|exact HB.out|apply bwA|apply bwN|apply bw1|refine below_set ?_ (IsS74.ge HI0.out))|exact HB.out));rintro e w7 ⟨rfl,hi,hb,hk⟩;refine ⟨_,rfl,?_⟩;have n0_:=aMk (KeepBut.trans (by repeat (first|(with_reducible first|exact HK.out|apply KeepBut.set_|apply keep_drewN|apply keep_drew|apply keep_alloc)|exact HK.out)) hk (.inl rfl));have n1_:=aMk (hb);have n2_:=aMk (hi);clear HK;clear HB;clear HI0;have HK:=n0_;have HB:=n1_;have HI0:=n2_;clear n0_ n1_ n2_;(try clear hb);(try clear hb2);(try clear hk);(try clear hi)))
    go_ret
    exact ⟨by first | rfl|(simp [errW_none,errW_some] <;> rfl)|(simp [*,errW_none,errW_some] <;> rfl),by repeat (first|(with_reducible first|exact HI0.out|apply IsS74.alloc|apply IsS74.drewN|apply IsS74.drew|apply IsS74.set_1|apply IsS74.set_2)|exact HI0.out),by repeat (first|(with_reducible first|exact HB.out|apply bwA|apply bwN|apply bw1|refine below_set ?_ (IsS74.ge HI0.out))|exact HB.out),by repeat (first|(with_reducible first|exact HK.out|apply KeepBut.set_|apply keep_drewN|apply keep_drew|apply keep_alloc)|exact HK.out)⟩
  ·rw [if_neg c4] at H
   have c4b0 : decide (a1 ≤ 256) = false:=decide_eq_false c4
   clear c4
   replace H:=Option.bind_eq_some_iff.mp H
   obtain ⟨⟨t345,t346,t347⟩,A80,H⟩:=H
   replace H : ((spec_l00Src_byte.f s0_0 t346 t347).bind fun bt348 => ((spec_l00Src_byte.f s0_0 bt348.2.1 bt348.2.2).bind fun bt351 => (if a1 = 0 then (none) else (some (Int.tmod (wrap64 ((wrap64 ((wrap64 (t345 * 65536)) + (wrap64 (bt348.1 * 256)))) + bt351.1)) a1,bt351.2.1,bt351.2.2))))) = some (r1,r2,r3):=H
   have A8:=aMk A80
   clear A80
   replace H:=Option.bind_eq_some_iff.mp H
   obtain ⟨⟨t348,t349,t350⟩,A90,H⟩:=H
   replace H : ((spec_l00Src_byte.f s0_0 t349 t350).bind fun bt351 => (if a1 = 0 then (none) else (some (Int.tmod (wrap64 ((wrap64 ((wrap64 (t345 * 65536)) + (wrap64 (t348 * 256)))) + bt351.1)) a1,bt351.2.1,bt351.2.2)))) = some (r1,r2,r3):=H
   have A9:=aMk A90
   clear A90
   replace H:=Option.bind_eq_some_iff.mp H
   obtain ⟨⟨t351,t352,t353⟩,A100,H⟩:=H
   replace H : (if a1 = 0 then (none) else (some (Int.tmod (wrap64 ((wrap64 ((wrap64 (t345 * 65536)) + (wrap64 (t348 * 256)))) + t351)) a1,t352,t353))) = some (r1,r2,r3):=H
   have A10:=aMk A100
   clear A100
   by_cases c11 : a1 = 0
   ·rw [if_pos c11] at H
    exact absurd H (by simp)
   ·rw [if_neg c11] at H
    have c11b0 : (a1 == 0) = false:=beq_eq_false_iff_ne.mpr c11
    have c11b1 : (a1 != 0) = true:=bne_iff_ne.mpr c11
    simp only [Option.some.injEq,Prod.mk.injEq] at H
    obtain ⟨rfl,rfl,rfl⟩:=H
    go_enter Tryd.func68,Tryd.ntmps68
    go_wp2_with (first|((with_reducible refine gate_callee (f:=89) rfl ?_);refine goesL_ (some 17) rfl rfl Tryd.func89 (by kernel_rfl) rfl #[.pointer (some ⟨g,0,none⟩)] rfl (by (try simp only [List.map_toArray,List.map_cons,List.map_nil]);first | done | rfl|(simp only [List.length_drop,List.length_take];rfl)) ?_;(with_reducible refine (spec_l00Src_byte.calls g s0_0 s0_1 s0_2 t345 t346 t347 w0 _ ?side1 ?side2 A8.out).mono ?_);(case side1 => repeat (first|(with_reducible first|exact HI0.out|apply IsS74.alloc|apply IsS74.drewN|apply IsS74.drew|apply IsS74.set_1|apply IsS74.set_2)|exact HI0.out));(case side2 => repeat (first|(with_reducible first|exact HB.out|apply bwA|apply bwN|apply bw1|refine below_set ?_ (IsS74.ge HI0.out))|exact HB.out));rintro e w12 ⟨rfl,hi,hb,hk⟩;refine ⟨_,rfl,?_⟩;have n0_:=aMk (KeepBut.trans (by repeat (first|(with_reducible first|exact HK.out|apply KeepBut.set_|apply keep_drewN|apply keep_drew|apply keep_alloc)|exact HK.out)) hk (.inl rfl));have n1_:=aMk (hb);have n2_:=aMk (hi);clear HK;clear HB;clear HI0;have HK:=n0_;have HB:=n1_;have HI0:=n2_;clear n0_ n1_ n2_;(try clear hb);(try clear hb2);(try clear hk);(try clear hi))|((with_reducible refine gate_callee (f:=89) rfl ?_);refine goesL_ (some 19) rfl rfl Tryd.func89 (by kernel_rfl) rfl #[.pointer (some ⟨g,0,none⟩)] rfl (by (try simp only [List.map_toArray,List.map_cons,List.map_nil]);first | done | rfl|(simp only [List.length_drop,List.length_take];rfl)) ?_;(with_reducible refine (spec_l00Src_byte.calls g s0_0 t346 t347 t348 t349 t350 w0 _ ?side1 ?side2 A9.out).mono ?_);(case side1 => repeat (first|(with_reducible first|exact HI0.out|apply IsS74.alloc|apply IsS74.drewN|apply IsS74.drew|apply IsS74.set_1|apply IsS74.set_2)|exact HI0.out));(case side2 => repeat (first|(with_reducible first|exact HB.out|apply bwA|apply bwN|apply bw1|refine below_set ?_ (IsS74.ge HI0.out))|exact HB.out));rintro e w13 ⟨rfl,hi,hb,hk⟩;refine ⟨_,rfl,?_⟩;have n0_:=aMk (KeepBut.trans (by repeat (first|(with_reducible first|exact HK.out|apply KeepBut.set_|apply keep_drewN|apply keep_drew|apply keep_alloc)|exact HK.out)) hk (.inl rfl));have n1_:=aMk (hb);have n2_:=aMk (hi);clear HK;clear HB;clear HI0;have HK:=n0_;have HB:=n1_;have HI0:=n2_;clear n0_ n1_ n2_;(try clear hb);(try clear hb2);(try clear hk);(try clear hi))|((with_reducible refine gate_callee (f:=89) rfl ?_);refine goesL_ (some 21) rfl rfl Tryd.func89 (by kernel_rfl) rfl #[.pointer (some ⟨g,0,none⟩)] rfl (by (try simp only [List.map_toArray,List.map_cons,List.map_nil]);first | done | rfl|(simp only [List.length_drop,List.length_take];rfl)) ?_;(with_reducible refine (spec_l00Src_byte.calls g s0_0 t349 t350 t351 t352 t353 w0 _ ?side1 ?side2 A10.out).mono ?_);(case side1 => repeat (first|(with_reducible first|exact HI0.out|apply IsS74.alloc|apply IsS74.drewN|apply IsS74.drew|apply IsS74.set_1|apply IsS74.set_2)|exact HI0.out));(case side2 => repeat (first|(with_reducible first|exact HB.out|apply bwA|apply bwN|apply bw1|refine below_set ?_ (IsS74.ge HI0.out))|exact HB.out));rintro e w14 ⟨rfl,hi,hb,hk⟩;refine ⟨_,rfl,?_⟩;have n0_:=aMk (KeepBut.trans (by repeat (first|(with_reducible first|exact HK.out|apply KeepBut.set_|apply keep_drewN|apply keep_drew|apply keep_alloc)|exact HK.out)) hk (.inl rfl));have n1_:=aMk (hb);have n2_:=aMk (hi);clear HK;clear HB;clear HI0;have HK:=n0_;have HB:=n1_;have HI0:=n2_;clear n0_ n1_ n2_;(try clear hb);(try clear hb2);(try clear hk);(try clear hi)))
    go_ret
    exact ⟨by first | rfl|(simp [errW_none,errW_some] <;> rfl)|(simp [*,errW_none,errW_some] <;> rfl),by repeat (first|(with_reducible first|exact HI0.out|apply IsS74.alloc|apply IsS74.drewN|apply IsS74.drew|apply IsS74.set_1|apply IsS74.set_2)|exact HI0.out),by repeat (first|(with_reducible first|exact HB.out|apply bwA|apply bwN|apply bw1|refine below_set ?_ (IsS74.ge HI0.out))|exact HB.out),by repeat (first|(with_reducible first|exact HK.out|apply KeepBut.set_|apply keep_drewN|apply keep_drew|apply keep_alloc)|exact HK.out)⟩
end
section
/-! ### spec_l00Src_pick: function 69 -/
def spec_l00Src_pick.f (s0_0 : List Int) (s0_1 : Int) (s0_2 : Int) (l1 : List ByteArray) : Option (ByteArray × Int × Int):=if (l1.length : Int) = 0 then (some ((⟨#[]⟩ : ByteArray),s0_1,s0_2)) else ((spec_l00Src_next.f s0_0 s0_1 s0_2 (l1.length : Int)).bind fun bt354 => (if 0 ≤ bt354.1 then (if bt354.1 < (l1.length : Int) then (some (rdOf ByteArray.empty l1 bt354.1,bt354.2.1,bt354.2.2)) else (none)) else (none)))
set_option maxHeartbeats 8000000 in
set_option maxRecDepth 100000 in
theorem spec_l00Src_pick.calls (g : Nat) (s0_0 : List Int) (s0_1 : Int) (s0_2 : Int) (A1 : Option Addr) (c1 : Nat) (l1 : List ByteArray) (r1 : ByteArray) (r2 : Int) (r3 : Int) (w0 w : World) (hI : IsS74 w0 w g s0_0 s0_1 s0_2) (hB : Below w0.heap.size w0 w) (hr1 : Kd.C Kd.string w A1 l1.length l1) (hc1 : l1.length ≤ c1) (hf1 : ∀ ad,A1 = some ad → 0 < l1.length → ad.block ≠ g) (h : spec_l00Src_pick.f s0_0 s0_1 s0_2 l1 = some (r1,r2,r3)) :
  Calls Tryd.prog 69 #[.pointer (some ⟨g,0,none⟩),.slice A1 l1.length c1] w fun e w' => e = .returned (.string r1) ∧ IsS74 w0 w' g s0_0 r2 r3 ∧ Below w0.heap.size w0 w' ∧ KeepBut w w' g none:=by
 have HR1:=aMk hr1
 have HC1:=aMk hc1
 clear hr1 hc1
 have HI0:=aMk hI
 have HK:=aMk (KeepBut.refl w g none)
 have HL:=aMk hB.size
 clear hI
 have HW0:=aMk hB.size
 have HB:=aMk hB
 clear hB
 have H : (if (l1.length : Int) = 0 then (some ((⟨#[]⟩ : ByteArray),s0_1,s0_2)) else ((spec_l00Src_next.f s0_0 s0_1 s0_2 (l1.length : Int)).bind fun bt354 => (if 0 ≤ bt354.1 then (if bt354.1 < (l1.length : Int) then (some (rdOf ByteArray.empty l1 bt354.1,bt354.2.1,bt354.2.2)) else (none)) else (none)))) = some (r1,r2,r3):=h
 clear h
 by_cases c3 : (l1.length : Int) = 0
 ·rw [if_pos c3] at H
  have c3b0 : ((l1.length : Int) == 0) = true:=beq_iff_eq.mpr c3
  have c3b1 : ((l1.length : Int) != 0) = false:=bne_eq_false_iff_eq.mpr c3
  clear c3
  simp only [Option.some.injEq,Prod.mk.injEq] at H
  obtain ⟨rfl,rfl,rfl⟩:=H
  go_enter Tryd.func69,Tryd.ntmps69
  go_wp2
  go_ret
  exact ⟨by first | rfl|(simp [errW_none,errW_some] <;> rfl)|(simp [*,errW_none,errW_some] <;> rfl),by repeat (first|(with_reducible first|exact HI0.out|apply IsS74.alloc|apply IsS74.drewN|apply IsS74.drew|apply IsS74.set_1|apply IsS74.set_2)|exact HI0.out),by repeat (first|(with_reducible first|exact HB.out|apply bwA|apply bwN|apply bw1|refine below_set ?_ (IsS74.ge HI0.out))|exact HB.out),by repeat (first|(with_reducible first|exact HK.out|apply KeepBut.set_|apply keep_drewN|apply keep_drew|apply keep_alloc)|exact HK.out)⟩
 ·rw [if_neg c3] at H
  have c3b0 : ((l1.length : Int) == 0) = false:=beq_eq_false_iff_ne.mpr c3
  have c3b1 : ((l1.length : Int) != 0) = true:=bne_iff_ne.mpr c3
  have c3b2 : ¬ (l1 = []):=fun h_ => c3 (by rw [h_];rfl)
  replace H:=Option.bind_eq_some_iff.mp H
  obtain ⟨⟨t354,t355,t356⟩,A40,H⟩:=H
  replace H : (if 0 ≤ t354 then (if t354 < (l1.length : Int) then (some (rdOf ByteArray.empty l1 t354,t355,t356)) else (none)) else (none)) = some (r1,r2,r3):=H
  have A4:=aMk A40
  clear A40
  by_cases c5 : 0 ≤ t354
  ·rw [if_pos c5] at H
   have c5b0 : decide (0 ≤ t354) = true:=decide_eq_true c5
   clear c5
   by_cases c6 : t354 < (l1.length : Int)
   ·rw [if_pos c6] at H
    have c6b0 : decide (t354 < (l1.length : Int)) = true:=decide_eq_true c6
    clear c6
    simp only [Option.some.injEq,Prod.mk.injEq] at H
    obtain ⟨rfl,rfl,rfl⟩:=H
    go_enter Tryd.func69,Tryd.ntmps69
    go_wp2_with (first|((with_reducible refine gate_callee (f:=68) rfl ?_);refine goesL_ (some 12) rfl rfl Tryd.func68 (by kernel_rfl) rfl #[.pointer (some ⟨g,0,none⟩),.int .i64 (l1.length : Int)] rfl (by (try simp only [List.map_toArray,List.map_cons,List.map_nil]);first | done | rfl|(simp only [List.length_drop,List.length_take];rfl)) ?_;(with_reducible refine (spec_l00Src_next.calls g s0_0 s0_1 s0_2 (l1.length : Int) t354 t355 t356 w0 _ ?side1 ?side2 A4.out).mono ?_);(case side1 => repeat (first|(with_reducible first|exact HI0.out|apply IsS74.alloc|apply IsS74.drewN|apply IsS74.drew|apply IsS74.set_1|apply IsS74.set_2)|exact HI0.out));(case side2 => repeat (first|(with_reducible first|exact HB.out|apply bwA|apply bwN|apply bw1|refine below_set ?_ (IsS74.ge HI0.out))|exact HB.out));rintro e w7 ⟨rfl,hi,hb,hk⟩;refine ⟨_,rfl,?_⟩;have n0_:=aMk (KeepBut.trans (by repeat (first|(with_reducible first|exact HK.out|apply KeepBut.set_|apply keep_drewN|apply keep_drew|apply keep_alloc)|exact HK.out)) hk (.inl rfl));have n1_:=aMk (hb);have n2_:=aMk (hi);clear HK;clear HB;clear HI0;have HK:=n0_;have HB:=n1_;have HI0:=n2_;clear n0_ n1_ n2_;(try clear hb);(try clear hb2);(try clear hk);(try clear hi);have p357 : 0 ≤ (t354 : Int):=of_decide_eq_true (by first|(with_reducible assumption) | assumption);have q357 : t354 < (l1.length : Int):=of_decide_eq_true (by first|(with_reducible assumption) | assumption);obtain ⟨ad357,e357,hx357_0⟩:=Kd.at_string HR1.out t354 p357 q357;cases e357;replace hx357_0:=keep_cell HK.out hx357_0 (by first|(rw [add_block];exact hf1 _ rfl (by omega))|exact hf1 _ rfl (by omega)|exact hf1 ad357 rfl (by omega));replace p357:=eq_true p357;replace q357:=eq_true q357))
    go_ret
    exact ⟨by first | rfl|(simp [errW_none,errW_some] <;> rfl)|(simp [*,errW_none,errW_some] <;> rfl),by repeat (first|(with_reducible first|exact HI0.out|apply IsS74.alloc|apply IsS74.drewN|apply IsS74.drew|apply IsS74.set_1|apply IsS74.set_2)|exact HI0.out),by repeat (first|(with_reducible first|exact HB.out|apply bwA|apply bwN|apply bw1|refine below_set ?_ (IsS74.ge HI0.out))|exact HB.out),by repeat (first|(with_reducible first|exact HK.out|apply KeepBut.set_|apply keep_drewN|apply keep_drew|apply keep_alloc)|exact HK.out)⟩
   ·rw [if_neg c6] at H
    exact absurd H (by simp)
  ·rw [if_neg c5] at H
   exact absurd H (by simp)
end
section
/-! ### spec_l00Src_formPairs: function 45 -/
def spec_l00Src_formPairs.l0 : Nat → List (S55) → Int → List Int → Int → Int → Option ((List (S55)) × Int × Int)
 | 0,_,_,_,_,_ => none
 | k + 1,x3,x4,x1000,x1001,x1002 => if x4 > 0 then ((spec_l00Src_pick.f x1000 x1001 x1002 (([(⟨#[97]⟩ : ByteArray),(⟨#[107,101,121,32,120]⟩ : ByteArray),(⟨#[38,61]⟩ : ByteArray)] : List ByteArray))).bind fun bt367 => ((spec_l00Src_pick.f x1000 bt367.2.1 bt367.2.2 (([(⟨#[]⟩ : ByteArray),(⟨#[118,97,108,117,101]⟩ : ByteArray),(⟨#[97,32,98,38,99,61,100]⟩ : ByteArray),(⟨#[0,255,37,43]⟩ : ByteArray)] : List ByteArray))).bind fun bt373 => (if x3.length < 4398046511104 then (spec_l00Src_formPairs.l0 k (x3 ++ [(⟨bt367.1,bt373.1⟩ : S55)]) (wrap64 (x4 - 1)) x1000 bt373.2.1 bt373.2.2) else (none)))) else (some (x3,x1001,x1002))
def spec_l00Src_formPairs.f (k : Nat) (s0_0 : List Int) (s0_1 : Int) (s0_2 : Int) : Option ((List (S55)) × Int × Int):=(spec_l00Src_next.f s0_0 s0_1 s0_2 4).bind fun bt361 => (spec_l00Src_formPairs.l0 k (([] : List (S55))) bt361.1 s0_0 bt361.2.1 bt361.2.2)
theorem spec_l00Src_formPairs.mono_l : ∀ k,(∀ y0 y1 y2 y3 y4,LeO (spec_l00Src_formPairs.l0 k y0 y1 y2 y3 y4) (spec_l00Src_formPairs.l0 (k + 1) y0 y1 y2 y3 y4))
 | 0 => fun _ _ _ _ _ r h => by simp [spec_l00Src_formPairs.l0] at h
 | k + 1 => by
  have ih0:=spec_l00Src_formPairs.mono_l k
  ·intro y0 y1 y2 y3 y4
   unfold spec_l00Src_formPairs.l0
   repeat' first
   | (with_reducible exact ih0 _ _ _ _ _)
   | (with_reducible exact LeO.refl _)
   | (with_reducible exact LeO.none _)
   | (with_reducible refine LeO.ite ?_ ?_)
   | (with_reducible refine LeO.bind ?_ (fun _ => ?_))
   | exact ih0 _ _ _ _ _
   | exact LeO.none _
   | refine LeO.ite ?_ ?_
   | refine LeO.bind ?_ (fun _ => ?_)
theorem spec_l00Src_formPairs.mono : ∀ a0 a1 a2 k,LeO (spec_l00Src_formPairs.f k a0 a1 a2) (spec_l00Src_formPairs.f (k + 1) a0 a1 a2):=by
 intro a0 a1 a2 k
 have ih0:=spec_l00Src_formPairs.mono_l k
 unfold spec_l00Src_formPairs.f
 repeat' first
   | (with_reducible exact ih0 _ _ _ _ _)
   | (with_reducible exact LeO.refl _)
   | (with_reducible exact LeO.none _)
   | (with_reducible refine LeO.ite ?_ ?_)
   | (with_reducible refine LeO.bind ?_ (fun _ => ?_))
   | exact ih0 _ _ _ _ _
   | exact LeO.none _
   | refine LeO.ite ?_ ?_
   | refine LeO.bind ?_ (fun _ => ?_)
set_option maxHeartbeats 8000000 in
set_option maxRecDepth 100000 in
theorem spec_l00Src_formPairs.calls (k : Nat) (g : Nat) (s0_0 : List Int) (s0_1 : Int) (s0_2 : Int) (r1 : List (S55)) (r2 : Int) (r3 : Int) (w0 w : World) (hI : IsS74 w0 w g s0_0 s0_1 s0_2) (hB : Below w0.heap.size w0 w) (h : spec_l00Src_formPairs.f k s0_0 s0_1 s0_2 = some (r1,r2,r3)) :
  Calls Tryd.prog 45 #[.pointer (some ⟨g,0,none⟩)] w fun e w' => ∃ v0_ : Value,e = .returned (v0_) ∧ Kd.R k55 55 w' w.heap.size (fun _ => True) v0_ r1 ∧ IsS74 w0 w' g s0_0 r2 r3 ∧ Below w0.heap.size w0 w' ∧ KeepBut w w' g none:=by
 have hu55:=Tryd.underlying55
 have HI0:=aMk hI
 have HK:=aMk (KeepBut.refl w g none)
 have HL:=aMk hB.size
 clear hI
 have HW0:=aMk hB.size
 have HB:=aMk hB
 clear hB
 have H : ((spec_l00Src_next.f s0_0 s0_1 s0_2 4).bind fun bt361 => (spec_l00Src_formPairs.l0 k (([] : List (S55))) bt361.1 s0_0 bt361.2.1 bt361.2.2)) = some (r1,r2,r3):=h
 clear h
 obtain ⟨y358,hy358⟩ : ∃ y_ : List (S55),y_ = (([] : List (S55))):=⟨_,rfl⟩
 replace H : ((spec_l00Src_next.f s0_0 s0_1 s0_2 4).bind fun bt361 => (spec_l00Src_formPairs.l0 k y358 bt361.1 s0_0 bt361.2.1 bt361.2.2)) = some (r1,r2,r3):=by first|(rw [hy358];with_reducible exact H)|(have H2_:=(Option.bind_some _ _).symm.trans H;rw [hy358];with_reducible exact H2_)|(have H2_:=(Option.bind_some _ _).symm.trans H;with_reducible exact H2_) | with_reducible exact H|(rw [hy358];exact H)|exact H
 have Ny358:=aMk hy358
 clear hy358
 replace H:=Option.bind_eq_some_iff.mp H
 obtain ⟨⟨t361,t362,t363⟩,A20,H⟩:=H
 replace H : (spec_l00Src_formPairs.l0 k y358 t361 s0_0 t362 t363) = some (r1,r2,r3):=H
 have A2:=aMk A20
 clear A20
 have H':=aMk H
 clear H
 go_enter Tryd.func45,Tryd.ntmps45
 go_wp2_with (first|((with_reducible refine gate_dst (N:=5) rfl ?_);refine Kd.R_lit k55 _ 55 ?hg (N:=5) ?hd (xs:=([] : List (S55))) (inner:=[]) (ok:=fun _ => True) (okp:=fun _ => True) ?hr ?hp (fun _ hk => hk) trivial (Below.refl _ _) (Nat.le_refl _) (by simp) ?_;(case hd => rfl);(case hg => rfl);(case hr => first|(go_simp;done)|(go_simp;rfl));(case hp => exact (Reps.none _ _));intro v359 w3 ho4 hb hg_ hnew_;clear hg_ hnew_;(first|rw [← Ny358.out] at ho4|(simp only [Int.reduceToNat] at ho4;rw [← Ny358.out] at ho4));have n0_:=aMk (Kd.R_lower ho4 (keep_size (w:=w) (g:=g) (row:=none) (by repeat (first|(with_reducible first|exact HK.out|apply KeepBut.set_|apply keep_drewN|apply keep_drew|apply keep_alloc)|exact HK.out))));have n1_:=aMk (IsS74.below (by repeat (first|(with_reducible first|exact HI0.out|apply IsS74.alloc|apply IsS74.drewN|apply IsS74.drew|apply IsS74.set_1|apply IsS74.set_2)|exact HI0.out)) hb);have n2_:=aMk (KeepBut.trans (by repeat (first|(with_reducible first|exact HK.out|apply KeepBut.set_|apply keep_drewN|apply keep_drew|apply keep_alloc)|exact HK.out)) (KeepBut.of_below hb g none) (.inl rfl));have n3_:=aMk (below_step (by repeat (first|(with_reducible first|exact HB.out|apply bwA|apply bwN|apply bw1|refine below_set ?_ (IsS74.ge HI0.out))|exact HB.out)) hb);clear HI0;clear HK;clear HB;have HO360:=n0_;have HI0:=n1_;have HK:=n2_;have HB:=n3_;clear n0_ n1_ n2_ n3_;clear hb ho4)|((with_reducible refine gate_callee (f:=68) rfl ?_);refine goesL_ (some 7) rfl rfl Tryd.func68 (by kernel_rfl) rfl #[.pointer (some ⟨g,0,none⟩),.int .i64 4] rfl (by (try simp only [List.map_toArray,List.map_cons,List.map_nil]);first | done | rfl|(simp only [List.length_drop,List.length_take];rfl)) ?_;(with_reducible refine (spec_l00Src_next.calls g s0_0 s0_1 s0_2 4 t361 t362 t363 w0 _ ?side1 ?side2 A2.out).mono ?_);(case side1 => repeat (first|(with_reducible first|exact HI0.out|apply IsS74.alloc|apply IsS74.drewN|apply IsS74.drew|apply IsS74.set_1|apply IsS74.set_2)|exact HI0.out));(case side2 => repeat (first|(with_reducible first|exact HB.out|apply bwA|apply bwN|apply bw1|refine below_set ?_ (IsS74.ge HI0.out))|exact HB.out));rintro e w5 ⟨rfl,hi,hb,hk⟩;refine ⟨_,rfl,?_⟩;have n0_:=aMk (Kd.R_mono (Kd.R_keep (IsS74.apart (show IsS74 w0 _ g s0_0 s0_1 s0_2 from by repeat (first|(with_reducible first|exact HI0.out|apply IsS74.alloc|apply IsS74.drewN|apply IsS74.drew|apply IsS74.set_1|apply IsS74.set_2)|exact HI0.out)) (by (with_reducible repeat (first|apply Kd.R_alloc|apply Kd.R_drewN|apply Kd.R_drew));exact HO360.out) (by decide)) hk (fun _ h => h.2)) (fun _ h => h.1));have n1_:=aMk (KeepBut.trans (by repeat (first|(with_reducible first|exact HK.out|apply KeepBut.set_|apply keep_drewN|apply keep_drew|apply keep_alloc)|exact HK.out)) hk (.inl rfl));have n2_:=aMk (hb);have n3_:=aMk (hi);clear HO360;clear HK;clear HB;clear HI0;have HO360:=n0_;have HK:=n1_;have HB:=n2_;have HI0:=n3_;clear n0_ n1_ n2_ n3_;(try clear hb);(try clear hb2);(try clear hk);(try clear hi)))
 go_loopg [3,4] k (fun kq v3 v4 w' => ∃ (x3_1 : List (S55)) (x4_1 : Int) (x1001_1 : Int) (x1002_1 : Int),v4 = .int .i64 x4_1 ∧ Aside0 (spec_l00Src_formPairs.l0 kq x3_1 x4_1 s0_0 x1001_1 x1002_1 = some (r1,r2,r3)) ∧ Aside0 (kq ≤ k) ∧ Aside0 (Kd.R k55 55 w' w.heap.size (fun _ => True) v3 x3_1) ∧ Aside0 (IsS74 w0 w' g s0_0 x1001_1 x1002_1) ∧ Aside0 (KeepBut w w' g none) ∧ Aside0 (Below w0.heap.size w0 w'))
 case atStart => exact ⟨(y358),(t361),(t362),(t363),(by first | rfl|(simp;done)|(simp [*];done)|(simp [ne_nil_b];done)|(simp [ne_nil_b, *];done)),H',⟨Nat.le_refl _⟩,⟨by (with_reducible repeat (first|apply Kd.R_alloc|apply Kd.R_drewN|apply Kd.R_drew));exact HO360.out⟩,⟨by repeat (first|(with_reducible first|exact HI0.out|apply IsS74.alloc|apply IsS74.drewN|apply IsS74.drew|apply IsS74.set_1|apply IsS74.set_2)|exact HI0.out)⟩,⟨by repeat (first|(with_reducible first|exact HK.out|apply KeepBut.set_|apply keep_drewN|apply keep_drew|apply keep_alloc)|exact HK.out)⟩,⟨by repeat (first|(with_reducible first|exact HB.out|apply bwA|apply bwN|apply bw1|refine below_set ?_ (IsS74.ge HI0.out))|exact HB.out)⟩⟩
 case round =>
  clear H'
  try clear p2
  try clear c4
  obtain ⟨x3_1,x4_1,x1001_1,x1002_1,rfl,HA,HK1,HO_3,HI0,HK,HB⟩:=hrel
  cases gk with
  | zero => exact absurd HA.out (by simp [spec_l00Src_formPairs.l0])
  | succ k1 =>
   have H:=HA.out
   clear HA
   simp only [spec_l00Src_formPairs.l0] at H
   by_cases c6 : x4_1 > 0
   ·rw [if_pos c6] at H
    have c6b0 : decide (0 < x4_1) = true:=decide_eq_true c6
    clear c6
    obtain ⟨y364,hy364⟩ : ∃ y_ : List ByteArray,y_ = (([(⟨#[97]⟩ : ByteArray),(⟨#[107,101,121,32,120]⟩ : ByteArray),(⟨#[38,61]⟩ : ByteArray)] : List ByteArray)):=⟨_,rfl⟩
    replace H : ((spec_l00Src_pick.f s0_0 x1001_1 x1002_1 y364).bind fun bt367 => ((spec_l00Src_pick.f s0_0 bt367.2.1 bt367.2.2 (([(⟨#[]⟩ : ByteArray),(⟨#[118,97,108,117,101]⟩ : ByteArray),(⟨#[97,32,98,38,99,61,100]⟩ : ByteArray),(⟨#[0,255,37,43]⟩ : ByteArray)] : List ByteArray))).bind fun bt373 => (if x3_1.length < 4398046511104 then (spec_l00Src_formPairs.l0 k1 (x3_1 ++ [(⟨bt367.1,bt373.1⟩ : S55)]) (wrap64 (x4_1 - 1)) s0_0 bt373.2.1 bt373.2.2) else (none)))) = some (r1,r2,r3):=by first|(rw [hy364];with_reducible exact H)|(have H2_:=(Option.bind_some _ _).symm.trans H;rw [hy364];with_reducible exact H2_)|(have H2_:=(Option.bind_some _ _).symm.trans H;with_reducible exact H2_) | with_reducible exact H|(rw [hy364];exact H)|exact H
    have Ny364:=aMk hy364
    clear hy364
    replace H:=Option.bind_eq_some_iff.mp H
    obtain ⟨⟨t367,t368,t369⟩,A70,H⟩:=H
    replace H : ((spec_l00Src_pick.f s0_0 t368 t369 (([(⟨#[]⟩ : ByteArray),(⟨#[118,97,108,117,101]⟩ : ByteArray),(⟨#[97,32,98,38,99,61,100]⟩ : ByteArray),(⟨#[0,255,37,43]⟩ : ByteArray)] : List ByteArray))).bind fun bt373 => (if x3_1.length < 4398046511104 then (spec_l00Src_formPairs.l0 k1 (x3_1 ++ [(⟨t367,bt373.1⟩ : S55)]) (wrap64 (x4_1 - 1)) s0_0 bt373.2.1 bt373.2.2) else (none))) = some (r1,r2,r3):=H
    have A7:=aMk A70
    clear A70
    obtain ⟨y370,hy370⟩ : ∃ y_ : List ByteArray,y_ = (([(⟨#[]⟩ : ByteArray),(⟨#[118,97,108,117,101]⟩ : ByteArray),(⟨#[97,32,98,38,99,61,100]⟩ : ByteArray),(⟨#[0,255,37,43]⟩ : ByteArray)] : List ByteArray)):=⟨_,rfl⟩
    replace H : ((spec_l00Src_pick.f s0_0 t368 t369 y370).bind fun bt373 => (if x3_1.length < 4398046511104 then (spec_l00Src_formPairs.l0 k1 (x3_1 ++ [(⟨t367,bt373.1⟩ : S55)]) (wrap64 (x4_1 - 1)) s0_0 bt373.2.1 bt373.2.2) else (none))) = some (r1,r2,r3):=by first|(rw [hy370];with_reducible exact H)|(have H2_:=(Option.bind_some _ _).symm.trans H;rw [hy370];with_reducible exact H2_)|(have H2_:=(Option.bind_some _ _).symm.trans H;with_reducible exact H2_) | with_reducible exact H|(rw [hy370];exact H)|exact H
    have Ny370:=aMk hy370
    clear hy370
    replace H:=Option.bind_eq_some_iff.mp H
    obtain ⟨⟨t373,t374,t375⟩,A80,H⟩:=H
    replace H : (if x3_1.length < 4398046511104 then (spec_l00Src_formPairs.l0 k1 (x3_1 ++ [(⟨t367,t373⟩ : S55)]) (wrap64 (x4_1 - 1)) s0_0 t374 t375) else (none)) = some (r1,r2,r3):=H
    have A8:=aMk A80
    clear A80
    by_cases c9 : x3_1.length < 4398046511104
    ·rw [if_pos c9] at H
     have LMc9:=aMk c9
     clear c9
     obtain ⟨y376,hy376⟩ : ∃ y_ : List (S55),y_ = (x3_1 ++ [(⟨t367,t373⟩ : S55)]):=⟨_,rfl⟩
     replace H : (spec_l00Src_formPairs.l0 k1 y376 (wrap64 (x4_1 - 1)) s0_0 t374 t375) = some (r1,r2,r3):=by first|(rw [hy376];with_reducible exact H)|(have H2_:=(Option.bind_some _ _).symm.trans H;rw [hy376];with_reducible exact H2_)|(have H2_:=(Option.bind_some _ _).symm.trans H;with_reducible exact H2_) | with_reducible exact H|(rw [hy376];exact H)|exact H
     have Ny376:=aMk hy376
     clear hy376
     have H':=aMk H
     clear H
     go_wp2_with (first|((with_reducible refine gate_dst (N:=14) rfl ?_);refine Kd.R_lit Kd.string _ 9 ?hg (N:=14) ?hd (xs:=([(⟨#[97]⟩ : ByteArray),(⟨#[107,101,121,32,120]⟩ : ByteArray),(⟨#[38,61]⟩ : ByteArray)] : List ByteArray)) (inner:=[.string (⟨#[97]⟩ : ByteArray),.string (⟨#[107,101,121,32,120]⟩ : ByteArray),.string (⟨#[38,61]⟩ : ByteArray)]) (ok:=fun _ => True) (okp:=fun _ => True) ?hr ?hp (fun _ hk => hk) trivial (Below.refl _ _) (Nat.le_refl _) (by simp) ?_;(case hd => rfl);(case hg => rfl);(case hr => first|(go_simp;done)|(go_simp;rfl));(case hp => exact (Reps.one (show Kd.M Kd.string _ _ _ (⟨#[97]⟩ : ByteArray) [.string (⟨#[97]⟩ : ByteArray)] from rfl) (Reps.one (show Kd.M Kd.string _ _ _ (⟨#[107,101,121,32,120]⟩ : ByteArray) [.string (⟨#[107,101,121,32,120]⟩ : ByteArray)] from rfl) (Reps.one (show Kd.M Kd.string _ _ _ (⟨#[38,61]⟩ : ByteArray) [.string (⟨#[38,61]⟩ : ByteArray)] from rfl) (Reps.none _ _)))));intro v365 w10 ho11 hb hg_ hnew_;clear hg_ hnew_;(first|rw [← Ny364.out] at ho11|(simp only [Int.reduceToNat] at ho11;rw [← Ny364.out] at ho11));have n0_:=aMk (Kd.R_below (by (with_reducible repeat (first|apply Kd.R_alloc|apply Kd.R_drewN|apply Kd.R_drew));exact HO_3.out) hb);have n1_:=aMk (Kd.R_lower ho11 (keep_size (w:=w) (g:=g) (row:=none) (by repeat (first|(with_reducible first|exact HK.out|apply KeepBut.set_|apply keep_drewN|apply keep_drew|apply keep_alloc)|exact HK.out))));have n2_:=aMk (IsS74.below (by repeat (first|(with_reducible first|exact HI0.out|apply IsS74.alloc|apply IsS74.drewN|apply IsS74.drew|apply IsS74.set_1|apply IsS74.set_2)|exact HI0.out)) hb);have n3_:=aMk (KeepBut.trans (by repeat (first|(with_reducible first|exact HK.out|apply KeepBut.set_|apply keep_drewN|apply keep_drew|apply keep_alloc)|exact HK.out)) (KeepBut.of_below hb g none) (.inl rfl));have n4_:=aMk (below_step (by repeat (first|(with_reducible first|exact HB.out|apply bwA|apply bwN|apply bw1|refine below_set ?_ (IsS74.ge HI0.out))|exact HB.out)) hb);clear HO_3;clear HI0;clear HK;clear HB;have HO_3:=n0_;have HO366:=n1_;have HI0:=n2_;have HK:=n3_;have HB:=n4_;clear n0_ n1_ n2_ n3_ n4_;clear hb ho11;obtain ⟨Ao12,co12,eo12⟩:=Kd.R_slice HO366.out;subst eo12)|((with_reducible refine gate_callee (f:=69) rfl ?_);refine goesL_ (some 15) rfl rfl Tryd.func69 (by kernel_rfl) rfl #[.pointer (some ⟨g,0,none⟩),.slice Ao12 y364.length co12] rfl (by (try simp only [List.map_toArray,List.map_cons,List.map_nil]);first | done | rfl|(simp only [List.length_drop,List.length_take];rfl)) ?_;(with_reducible refine (spec_l00Src_pick.calls g s0_0 x1001_1 x1002_1 _ _ y364 t367 t368 t369 w0 _ ?side1 ?side2 ?side3 ?side4 ?side5 A7.out).mono ?_);(case side1 => repeat (first|(with_reducible first|exact HI0.out|apply IsS74.alloc|apply IsS74.drewN|apply IsS74.drew|apply IsS74.set_1|apply IsS74.set_2)|exact HI0.out));(case side2 => repeat (first|(with_reducible first|exact HB.out|apply bwA|apply bwN|apply bw1|refine below_set ?_ (IsS74.ge HI0.out))|exact HB.out));(case side3 => repeat (first|exact (Kd.R_reads' HO366.out).2.2|(with_reducible refine Kd.C_alloc ?_ _)|(with_reducible refine Kd.C_drewN ?_ _)|(with_reducible refine Kd.C_drew ?_)));(case side4 => exact (Kd.R_reads' HO366.out).2.1);(case side5 => exact far_slice (IsS74.own_ne HI0.out HO366.out (by decide)));rintro e w13 ⟨rfl,hi,hb,hk⟩;refine ⟨_,rfl,?_⟩;have n0_:=aMk (Kd.R_mono (Kd.R_keep (IsS74.apart (show IsS74 w0 _ g s0_0 x1001_1 x1002_1 from by repeat (first|(with_reducible first|exact HI0.out|apply IsS74.alloc|apply IsS74.drewN|apply IsS74.drew|apply IsS74.set_1|apply IsS74.set_2)|exact HI0.out)) (by (with_reducible repeat (first|apply Kd.R_alloc|apply Kd.R_drewN|apply Kd.R_drew));exact HO_3.out) (by decide)) hk (fun _ h => h.2)) (fun _ h => h.1));have n1_:=aMk (Kd.R_mono (Kd.R_keep (IsS74.apart (show IsS74 w0 _ g s0_0 x1001_1 x1002_1 from by repeat (first|(with_reducible first|exact HI0.out|apply IsS74.alloc|apply IsS74.drewN|apply IsS74.drew|apply IsS74.set_1|apply IsS74.set_2)|exact HI0.out)) (by (with_reducible repeat (first|apply Kd.R_alloc|apply Kd.R_drewN|apply Kd.R_drew));exact HO366.out) (by decide)) hk (fun _ h => h.2)) (fun _ h => h.1));have n2_:=aMk (KeepBut.trans (by repeat (first|(with_reducible first|exact HK.out|apply KeepBut.set_|apply keep_drewN|apply keep_drew|apply keep_alloc)|exact HK.out)) hk (.inl rfl));have n3_:=aMk (hb);have n4_:=aMk (hi);clear HO_3;clear HO366;clear HK;clear HB;clear HI0;have HO_3:=n0_;have HO366:=n1_;have HK:=n2_;have HB:=n3_;have HI0:=n4_;clear n0_ n1_ n2_ n3_ n4_;(try clear hb);(try clear hb2);(try clear hk);(try clear hi))|((with_reducible refine gate_dst (N:=17) rfl ?_);refine Kd.R_lit Kd.string _ 9 ?hg (N:=17) ?hd (xs:=([(⟨#[]⟩ : ByteArray),(⟨#[118,97,108,117,101]⟩ : ByteArray),(⟨#[97,32,98,38,99,61,100]⟩ : ByteArray),(⟨#[0,255,37,43]⟩ : ByteArray)] : List ByteArray)) (inner:=[.string (⟨#[]⟩ : ByteArray),.string (⟨#[118,97,108,117,101]⟩ : ByteArray),.string (⟨#[97,32,98,38,99,61,100]⟩ : ByteArray),.string (⟨#[0,255,37,43]⟩ : ByteArray)]) (ok:=fun _ => True) (okp:=fun _ => True) ?hr ?hp (fun _ hk => hk) trivial (Below.refl _ _) (Nat.le_refl _) (by simp) ?_;(case hd => rfl);(case hg => rfl);(case hr => first|(go_simp;done)|(go_simp;rfl));(case hp => exact (Reps.one (show Kd.M Kd.string _ _ _ (⟨#[]⟩ : ByteArray) [.string (⟨#[]⟩ : ByteArray)] from rfl) (Reps.one (show Kd.M Kd.string _ _ _ (⟨#[118,97,108,117,101]⟩ : ByteArray) [.string (⟨#[118,97,108,117,101]⟩ : ByteArray)] from rfl) (Reps.one (show Kd.M Kd.string _ _ _ (⟨#[97,32,98,38,99,61,100]⟩ : ByteArray) [.string (⟨#[97,32,98,38,99,61,100]⟩ : ByteArray)] from rfl) (Reps.one (show Kd.M Kd.string _ _ _ (⟨#[0,255,37,43]⟩ : ByteArray) [.string (⟨#[0,255,37,43]⟩ : ByteArray)] from rfl) (Reps.none _ _))))));intro v371 w14 ho15 hb hg_ hnew_;clear hg_ hnew_;(first|rw [← Ny370.out] at ho15|(simp only [Int.reduceToNat] at ho15;rw [← Ny370.out] at ho15));have n0_:=aMk (Kd.R_below (by (with_reducible repeat (first|apply Kd.R_alloc|apply Kd.R_drewN|apply Kd.R_drew));exact HO_3.out) hb);have n1_:=aMk (Kd.R_elder' (by (with_reducible repeat (first|apply Kd.R_alloc|apply Kd.R_drewN|apply Kd.R_drew));exact HO366.out) (Kd.R_base ho15) hb);have n2_:=aMk (Kd.R_lower (Kd.R_new' ho15 (Kd.R_lt (by (with_reducible repeat (first|apply Kd.R_alloc|apply Kd.R_drewN|apply Kd.R_drew));exact HO366.out))) (keep_size (w:=w) (g:=g) (row:=none) (by repeat (first|(with_reducible first|exact HK.out|apply KeepBut.set_|apply keep_drewN|apply keep_drew|apply keep_alloc)|exact HK.out))));have n3_:=aMk (IsS74.below (by repeat (first|(with_reducible first|exact HI0.out|apply IsS74.alloc|apply IsS74.drewN|apply IsS74.drew|apply IsS74.set_1|apply IsS74.set_2)|exact HI0.out)) hb);have n4_:=aMk (KeepBut.trans (by repeat (first|(with_reducible first|exact HK.out|apply KeepBut.set_|apply keep_drewN|apply keep_drew|apply keep_alloc)|exact HK.out)) (KeepBut.of_below hb g none) (.inl rfl));have n5_:=aMk (below_step (by repeat (first|(with_reducible first|exact HB.out|apply bwA|apply bwN|apply bw1|refine below_set ?_ (IsS74.ge HI0.out))|exact HB.out)) hb);clear HO_3;clear HO366;clear HI0;clear HK;clear HB;have HO_3:=n0_;have HO366:=n1_;have HO372:=n2_;have HI0:=n3_;have HK:=n4_;have HB:=n5_;clear n0_ n1_ n2_ n3_ n4_ n5_;clear hb ho15;obtain ⟨Ao16,co16,eo16⟩:=Kd.R_slice HO372.out;subst eo16)|((with_reducible refine gate_callee (f:=69) rfl ?_);refine goesL_ (some 18) rfl rfl Tryd.func69 (by kernel_rfl) rfl #[.pointer (some ⟨g,0,none⟩),.slice Ao16 y370.length co16] rfl (by (try simp only [List.map_toArray,List.map_cons,List.map_nil]);first | done | rfl|(simp only [List.length_drop,List.length_take];rfl)) ?_;(with_reducible refine (spec_l00Src_pick.calls g s0_0 t368 t369 _ _ y370 t373 t374 t375 w0 _ ?side1 ?side2 ?side3 ?side4 ?side5 A8.out).mono ?_);(case side1 => repeat (first|(with_reducible first|exact HI0.out|apply IsS74.alloc|apply IsS74.drewN|apply IsS74.drew|apply IsS74.set_1|apply IsS74.set_2)|exact HI0.out));(case side2 => repeat (first|(with_reducible first|exact HB.out|apply bwA|apply bwN|apply bw1|refine below_set ?_ (IsS74.ge HI0.out))|exact HB.out));(case side3 => repeat (first|exact (Kd.R_reads' HO372.out).2.2|(with_reducible refine Kd.C_alloc ?_ _)|(with_reducible refine Kd.C_drewN ?_ _)|(with_reducible refine Kd.C_drew ?_)));(case side4 => exact (Kd.R_reads' HO372.out).2.1);(case side5 => exact far_slice (IsS74.own_ne HI0.out HO372.out (by decide)));rintro e w17 ⟨rfl,hi,hb,hk⟩;refine ⟨_,rfl,?_⟩;have n0_:=aMk (Kd.R_mono (Kd.R_keep (IsS74.apart (show IsS74 w0 _ g s0_0 t368 t369 from by repeat (first|(with_reducible first|exact HI0.out|apply IsS74.alloc|apply IsS74.drewN|apply IsS74.drew|apply IsS74.set_1|apply IsS74.set_2)|exact HI0.out)) (by (with_reducible repeat (first|apply Kd.R_alloc|apply Kd.R_drewN|apply Kd.R_drew));exact HO_3.out) (by decide)) hk (fun _ h => h.2)) (fun _ h => h.1));have n1_:=aMk (Kd.R_mono (Kd.R_keep (IsS74.apart (show IsS74 w0 _ g s0_0 t368 t369 from by repeat (first|(with_reducible first|exact HI0.out|apply IsS74.alloc|apply IsS74.drewN|apply IsS74.drew|apply IsS74.set_1|apply IsS74.set_2)|exact HI0.out)) (by (with_reducible repeat (first|apply Kd.R_alloc|apply Kd.R_drewN|apply Kd.R_drew));exact HO366.out) (by decide)) hk (fun _ h => h.2)) (fun _ h => h.1));have n2_:=aMk (Kd.R_mono (Kd.R_keep (IsS74.apart (show IsS74 w0 _ g s0_0 t368 t369 from by repeat (first|(with_reducible first|exact HI0.out|apply IsS74.alloc|apply IsS74.drewN|apply IsS74.drew|apply IsS74.set_1|apply IsS74.set_2)|exact HI0.out)) (by (with_reducible repeat (first|apply Kd.R_alloc|apply Kd.R_drewN|apply Kd.R_drew));exact HO372.out) (by decide)) hk (fun _ h => h.2)) (fun _ h => h.1));have n3_:=aMk (KeepBut.trans (by repeat (first|(with_reducible first|exact HK.out|apply KeepBut.set_|apply keep_drewN|apply keep_drew|apply keep_alloc)|exact HK.out)) hk (.inl rfl));have n4_:=aMk (hb);have n5_:=aMk (hi);clear HO_3;clear HO366;clear HO372;clear HK;clear HB;clear HI0;have HO_3:=n0_;have HO366:=n1_;have HO372:=n2_;have HK:=n3_;have HB:=n4_;have HI0:=n5_;clear n0_ n1_ n2_ n3_ n4_ n5_;(try clear hb);(try clear hb2);(try clear hk);(try clear hi))|((with_reducible refine gate_builtin (b:=.append) (xs:=#[.tmp 12,.tmp 20]) rfl ?_);at_builtin;refine Kd.R_append k55 w.heap.size rfl (.tmp 12) (.tmp 20) 32 55 (.agg #[(.string ⟨#[]⟩),(.string ⟨#[]⟩)]) 32 rfl Tryd.underlying32 info55 rfl (by decide) (by omega) u3 x3_1 (⟨t367,t373⟩ : S55) [.string t367,.string t373] (fun _ => True) (fun _ => False) rfl rfl ?aP (fun _ hk => hk.elim) ?aF ?aO (Below.refl _ _) ?aS ?aL ?_;(case aP => exact k55_mkM _ _ _ (⟨t367,t373⟩ : S55));(case aF => exact (fun _ _ => trivial));(case aO => exact (by (with_reducible repeat (first|apply Kd.R_alloc|apply Kd.R_drewN|apply Kd.R_drew));exact HO_3.out));(case aS => exact (keep_size (w:=w) (g:=g) (row:=none) (by repeat (first|(with_reducible first|exact HK.out|apply KeepBut.set_|apply keep_drewN|apply keep_drew|apply keep_alloc)|exact HK.out))));(case aL => have:=LMc9.out;omega);intro v377 w18 ho hb hg hat;rw [← Ny376.out] at ho;have n0_:=aMk (IsS74.grown (by repeat (first|(with_reducible first|exact HI0.out|apply IsS74.alloc|apply IsS74.drewN|apply IsS74.drew|apply IsS74.set_1|apply IsS74.set_2)|exact HI0.out)) hg (IsS74.own_ne HI0.out HO_3.out (by decide)));have n1_:=aMk (Kd.R_over' (by (with_reducible repeat (first|apply Kd.R_alloc|apply Kd.R_drewN|apply Kd.R_drew));exact HO366.out) (Kd.R_typed (by (with_reducible repeat (first|apply Kd.R_alloc|apply Kd.R_drewN|apply Kd.R_drew));exact HO_3.out)) (by decide) hg);have n2_:=aMk (Kd.R_over' (by (with_reducible repeat (first|apply Kd.R_alloc|apply Kd.R_drewN|apply Kd.R_drew));exact HO372.out) (Kd.R_typed (by (with_reducible repeat (first|apply Kd.R_alloc|apply Kd.R_drewN|apply Kd.R_drew));exact HO_3.out)) (by decide) hg);have n3_:=aMk (below_weaken (by repeat (first|(with_reducible first|exact HB.out|apply bwA|apply bwN|apply bw1|refine below_set ?_ (IsS74.ge HI0.out))|exact HB.out)) HL.out hb);have n4_:=aMk (KeepBut.trans (by repeat (first|(with_reducible first|exact HK.out|apply KeepBut.set_|apply keep_drewN|apply keep_drew|apply keep_alloc)|exact HK.out)) (KeepBut.of_grown hg g) (Kd.R_base2 HO_3.out));have n5_:=aMk (ho);clear HI0;clear HO366;clear HO372;clear HB;clear HK;clear HO_3;have HI0:=n0_;have HO366:=n1_;have HO372:=n2_;have HB:=n3_;have HK:=n4_;have HO378:=n5_;clear n0_ n1_ n2_ n3_ n4_ n5_;clear ho hb hg hat))
     go_roundg k1
     case measure => have:=HK1.out;omega
     case rel => exact ⟨(y376),(wrap64 (x4_1 - 1)),(t374),(t375),(by first | rfl|(simp;done)|(simp [*];done)|(simp [ne_nil_b];done)|(simp [ne_nil_b, *];done)),H',⟨by have:=HK1.out;omega⟩,⟨by (with_reducible repeat (first|apply Kd.R_alloc|apply Kd.R_drewN|apply Kd.R_drew));exact HO378.out⟩,⟨by repeat (first|(with_reducible first|exact HI0.out|apply IsS74.alloc|apply IsS74.drewN|apply IsS74.drew|apply IsS74.set_1|apply IsS74.set_2)|exact HI0.out)⟩,⟨by repeat (first|(with_reducible first|exact HK.out|apply KeepBut.set_|apply keep_drewN|apply keep_drew|apply keep_alloc)|exact HK.out)⟩,⟨by repeat (first|(with_reducible first|exact HB.out|apply bwA|apply bwN|apply bw1|refine below_set ?_ (IsS74.ge HI0.out))|exact HB.out)⟩⟩
    ·rw [if_neg c9] at H
     exact absurd H (by simp)
   ·rw [if_neg c6] at H
    have c6b0 : decide (0 < x4_1) = false:=decide_eq_false c6
    clear c6
    simp only [Option.some.injEq,Prod.mk.injEq] at H
    obtain ⟨rfl,rfl,rfl⟩:=H
    go_wp2
    go_ret
    exact ⟨_,by first | rfl|(simp [errW_none,errW_some] <;> rfl)|(simp [*,errW_none,errW_some] <;> rfl),by (with_reducible repeat (first|apply Kd.R_alloc|apply Kd.R_drewN|apply Kd.R_drew));exact HO_3.out,by repeat (first|(with_reducible first|exact HI0.out|apply IsS74.alloc|apply IsS74.drewN|apply IsS74.drew|apply IsS74.set_1|apply IsS74.set_2)|exact HI0.out),by repeat (first|(with_reducible first|exact HB.out|apply bwA|apply bwN|apply bw1|refine below_set ?_ (IsS74.ge HI0.out))|exact HB.out),by repeat (first|(with_reducible first|exact HK.out|apply KeepBut.set_|apply keep_drewN|apply keep_drew|apply keep_alloc)|exact HK.out)⟩
end
section
/-! ### spec_FormOf: function 19 -/
def spec_FormOf.f (k : Nat) (l0 : List Int) : Option ((List (S55))):=(spec_l00Source.f l0).bind fun bt379 => ((spec_l00Src_formPairs.f k bt379.1 bt379.2.1 bt379.2.2).bind fun bt383 => (some bt383.1))
theorem spec_FormOf.mono : ∀ a0 k,LeO (spec_FormOf.f k a0) (spec_FormOf.f (k + 1) a0):=by
 intro a0 k
 unfold spec_FormOf.f
 repeat' first
   | (with_reducible exact spec_l00Src_formPairs.mono ..)
   | (with_reducible exact LeO.refl _)
   | (with_reducible exact LeO.none _)
   | (with_reducible refine LeO.ite ?_ ?_)
   | (with_reducible refine LeO.bind ?_ (fun _ => ?_))
   | exact spec_l00Src_formPairs.mono ..
   | exact LeO.none _
   | refine LeO.ite ?_ ?_
   | refine LeO.bind ?_ (fun _ => ?_)
set_option maxHeartbeats 8000000 in
set_option maxRecDepth 100000 in
theorem spec_FormOf.calls (k : Nat) (A0 : Option Addr) (c0 : Nat) (l0 : List Int) (r : List (S55)) (w : World) (hr0 : Kd.C (Kd.int .u8) w A0 l0.length l0) (hc0 : l0.length ≤ c0) (h : spec_FormOf.f k l0 = some r) :
  Calls Tryd.prog 19 #[.slice A0 l0.length c0] w fun e w' => ∃ v0_ : Value,e = .returned (v0_) ∧ Kd.R k55 55 w' w.heap.size (fun _ => True) v0_ r ∧ Below w.heap.size w w':=by
 have HR0:=aMk hr0
 have HC0:=aMk hc0
 clear hr0 hc0
 have HB:=aMk (Below.refl w.heap.size w)
 have H : ((spec_l00Source.f l0).bind fun bt379 => ((spec_l00Src_formPairs.f k bt379.1 bt379.2.1 bt379.2.2).bind fun bt383 => (some bt383.1))) = some r:=h
 clear h
 replace H:=Option.bind_eq_some_iff.mp H
 obtain ⟨⟨t379,t380,t381⟩,A20,H⟩:=H
 replace H : ((spec_l00Src_formPairs.f k t379 t380 t381).bind fun bt383 => (some bt383.1)) = some r:=H
 have A2:=aMk A20
 clear A20
 replace H:=Option.bind_eq_some_iff.mp H
 obtain ⟨⟨t383,t386,t387⟩,A30,H⟩:=H
 replace H : (some t383) = some r:=H
 have A3:=aMk A30
 clear A30
 obtain rfl:=Option.some.inj H
 go_enter Tryd.func19,Tryd.ntmps19
 go_wp2_with (first|((with_reducible refine gate_callee (f:=44) rfl ?_);refine goesL_ (some 4) rfl rfl Tryd.func44 (by kernel_rfl) rfl #[.slice A0 l0.length c0] rfl (by (try simp only [List.map_toArray,List.map_cons,List.map_nil]);first | done | rfl|(simp only [List.length_drop,List.length_take];rfl)) ?_;(with_reducible refine (spec_l00Source.calls _ _ l0 t379 t380 t381 w _ ?side1 ?side2 ?side3 A2.out).mono ?_);(case side1 => repeat (first|(with_reducible first|exact HB.out|apply bwA|apply bwN|apply bw1)|exact HB.out));(case side2 => exact HR0.out);(case side3 => exact HC0.out);rintro e w4 ⟨g382,rfl,hi,hb,hb2⟩;refine ⟨_,rfl,?_⟩;have n0_:=aMk (hb);have n1_:=aMk (hi);clear HB;have HB:=n0_;have HI382:=n1_;clear n0_ n1_;(try clear hb);(try clear hb2);(try clear hk);(try clear hi))|((with_reducible refine gate_callee (f:=45) rfl ?_);refine goesL_ (some 5) rfl rfl Tryd.func45 (by kernel_rfl) rfl #[.pointer (some ⟨g382,0,none⟩)] rfl (by (try simp only [List.map_toArray,List.map_cons,List.map_nil]);first | done | rfl|(simp only [List.length_drop,List.length_take];rfl)) ?_;(with_reducible refine (spec_l00Src_formPairs.calls k g382 t379 t380 t381 t383 t386 t387 w _ ?side1 ?side2 A3.out).mono ?_);(case side1 => repeat (first|(with_reducible first|exact HI382.out|apply IsS74.alloc|apply IsS74.drewN|apply IsS74.drew|apply IsS74.set_1|apply IsS74.set_2)|exact HI382.out));(case side2 => repeat (first|(with_reducible first|exact HB.out|apply bwA|apply bwN|apply bw1|refine below_set ?_ (IsS74.ge HI382.out))|exact HB.out));rintro e w5 ⟨v384,rfl,ho0,hi,hb,hk⟩;refine ⟨_,rfl,?_⟩;have n0_:=aMk (Kd.R_lower ho0 (below_size (by repeat (first|(with_reducible first|exact HB.out|apply bwA|apply bwN|apply bw1|refine below_set ?_ (IsS74.ge HI382.out))|exact HB.out))));have n1_:=aMk (hb);have n2_:=aMk (hi);clear HB;clear HI382;have HO385:=n0_;have HB:=n1_;have HI382:=n2_;clear n0_ n1_ n2_;(try clear hb);(try clear hb2);(try clear hk);(try clear hi);(try clear ho0)))
 go_ret
 exact ⟨_,by first | rfl|(simp [errW_none,errW_some] <;> rfl)|(simp [*,errW_none,errW_some] <;> rfl),by (with_reducible repeat (first|apply Kd.R_alloc|apply Kd.R_drewN|apply Kd.R_drew));exact HO385.out,by repeat (first|(with_reducible first|exact HB.out|apply bwA|apply bwN|apply bw1|refine below_set ?_ (IsS74.ge HI382.out))|exact HB.out)⟩
end
section
/-! ### impl_escape: function 46 -/
mutual
def impl_escape.l0 : Nat → ByteArray → List Int → Int → Int → Option (ByteArray)
 | 0,_,_,_,_ => none
 | k + 1,x0,x3,x8,x9 => if x9 < x8 then (if 0 ≤ x9 then (if x9 < (x0.size : Int) then ((impl_isLetter.f (bt x0 x9)).bind fun t391 => (if t391 = true then (impl_escape.j1 k x0 x3 (bt x0 x9) x8 x9 true) else ((impl_isDigit.f (bt x0 x9)).bind fun t392 => (if t392 = true then (impl_escape.j1 k x0 x3 (bt x0 x9) x8 x9 true) else (if (bt x0 x9) = 45 then (impl_escape.j1 k x0 x3 (bt x0 x9) x8 x9 true) else (impl_escape.j1 k x0 x3 (bt x0 x9) x8 x9 ((bt x0 x9) == 46))))))) else (none)) else (none)) else (some (strOfNums x3))
def impl_escape.j1 : Nat → ByteArray → List Int → Int → Int → Int → Bool → Option (ByteArray)
 | 0,_,_,_,_,_,_ => none
 | k + 1,x0,x3,x5,x8,x9,x24 => if x24 = true then (if x3.length < 140737488355328 then (impl_escape.l0 k x0 (x3 ++ [x5]) x8 (wrap64 (x9 + 1))) else (none)) else (if x5 = 32 then (if x3.length < 140737488355328 then (impl_escape.l0 k x0 (x3 ++ [43]) x8 (wrap64 (x9 + 1))) else (none)) else (if 0 ≤ ((Int.tdiv x5 16) % 256) then (if ((Int.tdiv x5 16) % 256) < 16 then (if 0 ≤ (Int.tmod x5 16) then (if (Int.tmod x5 16) < 16 then ((some (([37,bt (⟨#[48,49,50,51,52,53,54,55,56,57,65,66,67,68,69,70]⟩ : ByteArray) ((Int.tdiv x5 16) % 256),bt (⟨#[48,49,50,51,52,53,54,55,56,57,65,66,67,68,69,70]⟩ : ByteArray) (Int.tmod x5 16)] : List Int) : List Int)).bind fun y399 => (if x3.length + y399.length < 140737488355328 then (impl_escape.l0 k x0 (x3 ++ y399) x8 (wrap64 (x9 + 1))) else (none))) else (none)) else (none)) else (none)) else (none)))
end
def impl_escape.f (k : Nat) (a0 : ByteArray) : Option (ByteArray):=impl_escape.l0 k a0 (([] : List Int)) (a0.size : Int) 0
theorem impl_escape.mono_l : ∀ k,(∀ y0 y1 y2 y3,LeO (impl_escape.l0 k y0 y1 y2 y3) (impl_escape.l0 (k + 1) y0 y1 y2 y3)) ∧ (∀ y0 y1 y2 y3 y4 y5,LeO (impl_escape.j1 k y0 y1 y2 y3 y4 y5) (impl_escape.j1 (k + 1) y0 y1 y2 y3 y4 y5))
 | 0 => ⟨fun _ _ _ _ r h => by simp [impl_escape.l0] at h,fun _ _ _ _ _ _ r h => by simp [impl_escape.j1] at h⟩
 | k + 1 => by
  obtain ⟨ih0,ih1⟩:=impl_escape.mono_l k
  refine ⟨?_,?_⟩
  ·intro y0 y1 y2 y3
   unfold impl_escape.l0
   repeat' first
   | (with_reducible exact ih0 _ _ _ _)
   | (with_reducible exact ih1 _ _ _ _ _ _)
   | (with_reducible exact LeO.refl _)
   | (with_reducible exact LeO.none _)
   | (with_reducible refine LeO.ite ?_ ?_)
   | (with_reducible refine LeO.bind ?_ (fun _ => ?_))
   | exact ih0 _ _ _ _
   | exact ih1 _ _ _ _ _ _
   | exact LeO.none _
   | refine LeO.ite ?_ ?_
   | refine LeO.bind ?_ (fun _ => ?_)
  ·intro y0 y1 y2 y3 y4 y5
   unfold impl_escape.j1
   repeat' first
   | (with_reducible exact ih0 _ _ _ _)
   | (with_reducible exact ih1 _ _ _ _ _ _)
   | (with_reducible exact LeO.refl _)
   | (with_reducible exact LeO.none _)
   | (with_reducible refine LeO.ite ?_ ?_)
   | (with_reducible refine LeO.bind ?_ (fun _ => ?_))
   | exact ih0 _ _ _ _
   | exact ih1 _ _ _ _ _ _
   | exact LeO.none _
   | refine LeO.ite ?_ ?_
   | refine LeO.bind ?_ (fun _ => ?_)
theorem impl_escape.mono : ∀ a0 k,LeO (impl_escape.f k a0) (impl_escape.f (k + 1) a0):=by
 intro a0 k
 obtain ⟨ih0,ih1⟩:=impl_escape.mono_l k
 unfold impl_escape.f
 repeat' first
   | (with_reducible exact ih0 _ _ _ _)
   | (with_reducible exact ih1 _ _ _ _ _ _)
   | (with_reducible exact LeO.refl _)
   | (with_reducible exact LeO.none _)
   | (with_reducible refine LeO.ite ?_ ?_)
   | (with_reducible refine LeO.bind ?_ (fun _ => ?_))
   | exact ih0 _ _ _ _
   | exact ih1 _ _ _ _ _ _
   | exact LeO.none _
   | refine LeO.ite ?_ ?_
   | refine LeO.bind ?_ (fun _ => ?_)
def impl_escape.T6 : Bool × List (List Nat × List Nat):=(true,[([],[]),([],[]),([1],[1]),([2],[2]),([],[]),([4],[4]),([5],[5]),([3,6],[3,6]),([0,7],[0,7]),([8,8,0,1,2,3,4,5,6,7,8],[0,8])])
def impl_escape.B6 : List Nat:=[0,0,2,6,0,16,48,126,255,511]
theorem impl_escape.tab6 : rtab .any (opsOf Tryd.f46 6) = impl_escape.T6:=by kernel_rfl
theorem impl_escape.bits6 : waitsOk impl_escape.T6.2 impl_escape.B6 = true:=by kernel_rfl
set_option maxHeartbeats 8000000 in
set_option maxRecDepth 100000 in
theorem impl_escape.calls (k : Nat) (a0 : ByteArray) (r : ByteArray) (w : World) (h : impl_escape.f k a0 = some r) :
  Calls Tryd.prog 46 #[.string a0] w fun e w' => e = .returned (.string r) ∧ Below w.heap.size w w':=by
 have HB:=aMk (Below.refl w.heap.size w)
 have H : (impl_escape.l0 k a0 (([] : List Int)) (a0.size : Int) 0) = some r:=h
 clear h
 obtain ⟨y388,hy388⟩ : ∃ y_ : List Int,y_ = (([] : List Int)):=⟨_,rfl⟩
 replace H : (impl_escape.l0 k a0 y388 (a0.size : Int) 0) = some r:=by first|(rw [hy388];with_reducible exact H)|(have H2_:=(Option.bind_some _ _).symm.trans H;rw [hy388];with_reducible exact H2_)|(have H2_:=(Option.bind_some _ _).symm.trans H;with_reducible exact H2_) | with_reducible exact H|(rw [hy388];exact H)|exact H
 have Ny388:=aMk hy388
 clear hy388
 have H':=aMk H
 clear H
 go_enter Tryd.func46,Tryd.ntmps46
 go_wp2_with (first|((with_reducible refine gate_dst (N:=6) rfl ?_);refine Kd.R_lit (Kd.int .u8) _ 5 ?hg (N:=6) ?hd (xs:=([] : List Int)) (inner:=[]) (ok:=fun _ => True) (okp:=fun _ => True) ?hr ?hp (fun _ hk => hk) trivial (Below.refl _ _) (Nat.le_refl _) (by simp) ?_;(case hd => rfl);(case hg => rfl);(case hr => first|(go_simp;done)|(go_simp;rfl));(case hp => exact (Reps.none _ _));intro v389 w2 ho3 hb hg_ hnew_;clear hg_ hnew_;(first|rw [← Ny388.out] at ho3|(simp only [Int.reduceToNat] at ho3;rw [← Ny388.out] at ho3));have n0_:=aMk (Kd.R_lower ho3 (below_size (by repeat first|exact HB.out|apply bwA|apply bwN|apply bw1)));have n1_:=aMk (below_step (by repeat first|exact HB.out|apply bwA|apply bwN|apply bw1) hb);clear HB;have HO390:=n0_;have HB:=n1_;clear n0_ n1_;clear hb ho3))
 go_loopg [3,9] k (fun kq v3 v9 w' => ∃ (x3_1 : List Int) (x9_1 : Int),v9 = .int .i64 x9_1 ∧ Aside0 (impl_escape.l0 kq a0 x3_1 (a0.size : Int) x9_1 = some r) ∧ Aside0 (kq ≤ k) ∧ Aside0 (Kd.R (Kd.int .u8) 5 w' w.heap.size (fun _ => True) v3 x3_1) ∧ Aside0 (Below w.heap.size w w'))
 case atStart => exact ⟨(y388),(0),(by first | rfl|(simp;done)|(simp [*];done)|(simp [ne_nil_b];done)|(simp [ne_nil_b, *];done)),H',⟨Nat.le_refl _⟩,⟨by (with_reducible repeat (first|apply Kd.R_alloc|apply Kd.R_drewN|apply Kd.R_drew));exact HO390.out⟩,⟨by repeat (first|(with_reducible first|exact HB.out|apply bwA|apply bwN|apply bw1)|exact HB.out)⟩⟩
 case round =>
  clear H'
  try clear p2
  obtain ⟨x3_1,x9_1,rfl,HA,HK1,HO_3,HB⟩:=hrel
  cases gk with
  | zero => exact absurd HA.out (by simp [impl_escape.l0])
  | succ k1 =>
   have H:=HA.out
   clear HA
   simp only [impl_escape.l0] at H
   by_cases c4 : x9_1 < (a0.size : Int)
   ·rw [if_pos c4] at H
    have c4b0 : decide (x9_1 < (a0.size : Int)) = true:=decide_eq_true c4
    clear c4
    by_cases c5 : 0 ≤ x9_1
    ·rw [if_pos c5] at H
     have c5b0 : decide (0 ≤ x9_1) = true:=decide_eq_true c5
     clear c5
     by_cases c6 : x9_1 < (a0.size : Int)
     ·rw [if_pos c6] at H
      have c6b0 : decide (x9_1 < (a0.size : Int)) = true:=decide_eq_true c6
      clear c6
      have HC8:=aMk H
      clear H
      have p7 : 0 ≤ (x9_1 : Int):=of_decide_eq_true (by first|(with_reducible assumption) | assumption)
      have q7 : x9_1 < (a0.size : Int):=of_decide_eq_true (by first|(with_reducible assumption) | assumption)
      have hx7:=bt_at a0 x9_1
      replace p7:=eq_true p7
      replace q7:=eq_true q7
      go_upto_region 7 with (fail)
      go_cut [24] (fun v24 wc => ∃ (kq : Nat) (x24_7 : Bool),v24 = .bool x24_7 ∧ Aside0 (impl_escape.j1 kq a0 x3_1 (bt a0 x9_1) (a0.size : Int) x9_1 x24_7 = some r) ∧ Aside0 (kq ≤ k1) ∧ Aside0 (Kd.R (Kd.int .u8) 5 wc w.heap.size (fun _ => True) u3 x3_1) ∧ Aside0 (Below w.heap.size w wc))
      case first =>
       have H:=HC8.out
       clear HC8
       replace H:=Option.bind_eq_some_iff.mp H
       obtain ⟨t391,A90,H⟩:=H
       replace H : (if t391 = true then (impl_escape.j1 k1 a0 x3_1 (bt a0 x9_1) (a0.size : Int) x9_1 true) else ((impl_isDigit.f (bt a0 x9_1)).bind fun t392 => (if t392 = true then (impl_escape.j1 k1 a0 x3_1 (bt a0 x9_1) (a0.size : Int) x9_1 true) else (if (bt a0 x9_1) = 45 then (impl_escape.j1 k1 a0 x3_1 (bt a0 x9_1) (a0.size : Int) x9_1 true) else (impl_escape.j1 k1 a0 x3_1 (bt a0 x9_1) (a0.size : Int) x9_1 ((bt a0 x9_1) == 46)))))) = some r:=H
       have A9:=aMk A90
       clear A90
       by_cases c10 : t391 = true
       ·subst c10
        have H1 : (impl_escape.j1 k1 a0 x3_1 (bt a0 x9_1) (a0.size : Int) x9_1 true) = some r:=by rw [if_pos rfl] at H;exact H
        clear H
        have H:=H1
        clear H1
        have H':=aMk H
        clear H
        go_wp2_with (first|((with_reducible refine gate_callee (f:=60) rfl ?_);refine goesL_ (some 26) rfl rfl Tryd.func60 (by kernel_rfl) rfl #[.int .u8 (bt a0 x9_1)] rfl (by (try simp only [List.map_toArray,List.map_cons,List.map_nil]);first | done | rfl|(simp only [List.length_drop,List.length_take];rfl)) ?_;(with_reducible refine (impl_isLetter.calls (bt a0 x9_1) true _ A9.out).mono ?_);rintro e w' ⟨rfl,⟨nd,rfl⟩⟩;refine ⟨_,rfl,?_⟩))
        go_meet
        case rel => exact ⟨_,(true),(by first | rfl|(simp;done)|(simp [*];done)|(simp [ne_nil_b];done)|(simp [ne_nil_b, *];done)),H',⟨by have:=HK1.out;first | omega|exact Nat.le_refl _⟩,⟨by (with_reducible repeat (first|apply Kd.R_alloc|apply Kd.R_drewN|apply Kd.R_drew));exact HO_3.out⟩,⟨by repeat (first|(with_reducible first|exact HB.out|apply bwA|apply bwN|apply bw1)|exact HB.out)⟩⟩
       ·replace c10:=Bool.eq_false_iff.mpr c10
        subst c10
        have H1 : ((impl_isDigit.f (bt a0 x9_1)).bind fun t392 => (if t392 = true then (impl_escape.j1 k1 a0 x3_1 (bt a0 x9_1) (a0.size : Int) x9_1 true) else (if (bt a0 x9_1) = 45 then (impl_escape.j1 k1 a0 x3_1 (bt a0 x9_1) (a0.size : Int) x9_1 true) else (impl_escape.j1 k1 a0 x3_1 (bt a0 x9_1) (a0.size : Int) x9_1 ((bt a0 x9_1) == 46))))) = some r:=by rw [if_neg (show ¬ (false = true) by decide)] at H;exact H
        clear H
        have H:=H1
        clear H1
        replace H:=Option.bind_eq_some_iff.mp H
        obtain ⟨t392,A110,H⟩:=H
        replace H : (if t392 = true then (impl_escape.j1 k1 a0 x3_1 (bt a0 x9_1) (a0.size : Int) x9_1 true) else (if (bt a0 x9_1) = 45 then (impl_escape.j1 k1 a0 x3_1 (bt a0 x9_1) (a0.size : Int) x9_1 true) else (impl_escape.j1 k1 a0 x3_1 (bt a0 x9_1) (a0.size : Int) x9_1 ((bt a0 x9_1) == 46)))) = some r:=H
        have A11:=aMk A110
        clear A110
        by_cases c12 : t392 = true
        ·subst c12
         have H1 : (impl_escape.j1 k1 a0 x3_1 (bt a0 x9_1) (a0.size : Int) x9_1 true) = some r:=by rw [if_pos rfl] at H;exact H
         clear H
         have H:=H1
         clear H1
         have H':=aMk H
         clear H
         go_wp2_with (first|((with_reducible refine gate_callee (f:=60) rfl ?_);refine goesL_ (some 26) rfl rfl Tryd.func60 (by kernel_rfl) rfl #[.int .u8 (bt a0 x9_1)] rfl (by (try simp only [List.map_toArray,List.map_cons,List.map_nil]);first | done | rfl|(simp only [List.length_drop,List.length_take];rfl)) ?_;(with_reducible refine (impl_isLetter.calls (bt a0 x9_1) false _ A9.out).mono ?_);rintro e w' ⟨rfl,⟨nd,rfl⟩⟩;refine ⟨_,rfl,?_⟩)|(go_at_call 61;(with_reducible refine (impl_isDigit.calls (bt a0 x9_1) true _ A11.out).mono ?_);rintro e w' ⟨rfl,⟨nd,rfl⟩⟩))
         go_meet
         case rel => exact ⟨_,(true),(by first | rfl|(simp;done)|(simp [*];done)|(simp [ne_nil_b];done)|(simp [ne_nil_b, *];done)),H',⟨by have:=HK1.out;first | omega|exact Nat.le_refl _⟩,⟨by (with_reducible repeat (first|apply Kd.R_alloc|apply Kd.R_drewN|apply Kd.R_drew));exact HO_3.out⟩,⟨by repeat (first|(with_reducible first|exact HB.out|apply bwA|apply bwN|apply bw1)|exact HB.out)⟩⟩
        ·replace c12:=Bool.eq_false_iff.mpr c12
         subst c12
         have H1 : (if (bt a0 x9_1) = 45 then (impl_escape.j1 k1 a0 x3_1 (bt a0 x9_1) (a0.size : Int) x9_1 true) else (impl_escape.j1 k1 a0 x3_1 (bt a0 x9_1) (a0.size : Int) x9_1 ((bt a0 x9_1) == 46))) = some r:=by rw [if_neg (show ¬ (false = true) by decide)] at H;exact H
         clear H
         have H:=H1
         clear H1
         by_cases c13 : (bt a0 x9_1) = 45
         ·rw [if_pos c13] at H
          have c13b0 : ((bt a0 x9_1) == 45) = true:=beq_iff_eq.mpr c13
          have c13b1 : ((bt a0 x9_1) != 45) = false:=bne_eq_false_iff_eq.mpr c13
          clear c13
          (first|rw [c13b0]|(simp only [i64_w,i32_w];rw [c13b0]) | skip)
          have H':=aMk H
          clear H
          go_wp2_with (first|((with_reducible refine gate_callee (f:=60) rfl ?_);refine goesL_ (some 26) rfl rfl Tryd.func60 (by kernel_rfl) rfl #[.int .u8 (bt a0 x9_1)] rfl (by (try simp only [List.map_toArray,List.map_cons,List.map_nil]);first | done | rfl|(simp only [List.length_drop,List.length_take];rfl)) ?_;(with_reducible refine (impl_isLetter.calls (bt a0 x9_1) false _ A9.out).mono ?_);rintro e w' ⟨rfl,⟨nd,rfl⟩⟩;refine ⟨_,rfl,?_⟩)|(go_at_call 61;(with_reducible refine (impl_isDigit.calls (bt a0 x9_1) false _ A11.out).mono ?_);rintro e w' ⟨rfl,⟨nd,rfl⟩⟩))
          go_meet
          case rel => exact ⟨_,(true),(by first | rfl|(simp;done)|(simp [*];done)|(simp [ne_nil_b];done)|(simp [ne_nil_b, *];done)),H',⟨by have:=HK1.out;first | omega|exact Nat.le_refl _⟩,⟨by (with_reducible repeat (first|apply Kd.R_alloc|apply Kd.R_drewN|apply Kd.R_drew));exact HO_3.out⟩,⟨by repeat (first|(with_reducible first|exact HB.out|apply bwA|apply bwN|apply bw1)|exact HB.out)⟩⟩
         ·rw [if_neg c13] at H
          have c13b0 : ((bt a0 x9_1) == 45) = false:=beq_eq_false_iff_ne.mpr c13
          have c13b1 : ((bt a0 x9_1) != 45) = true:=bne_iff_ne.mpr c13
          (first|rw [c13b0]|(simp only [i64_w,i32_w];rw [c13b0]) | skip)
          have H':=aMk H
          clear H
          go_wp2_with (first|((with_reducible refine gate_callee (f:=60) rfl ?_);refine goesL_ (some 26) rfl rfl Tryd.func60 (by kernel_rfl) rfl #[.int .u8 (bt a0 x9_1)] rfl (by (try simp only [List.map_toArray,List.map_cons,List.map_nil]);first | done | rfl|(simp only [List.length_drop,List.length_take];rfl)) ?_;(with_reducible refine (impl_isLetter.calls (bt a0 x9_1) false _ A9.out).mono ?_);rintro e w' ⟨rfl,⟨nd,rfl⟩⟩;refine ⟨_,rfl,?_⟩)|(go_at_call 61;(with_reducible refine (impl_isDigit.calls (bt a0 x9_1) false _ A11.out).mono ?_);rintro e w' ⟨rfl,⟨nd,rfl⟩⟩))
          go_meet
          case rel => exact ⟨_,(((bt a0 x9_1) == 46)),(by first | rfl|(simp;done)|(simp [*];done)|(simp [ne_nil_b];done)|(simp [ne_nil_b, *];done)),H',⟨by have:=HK1.out;first | omega|exact Nat.le_refl _⟩,⟨by (with_reducible repeat (first|apply Kd.R_alloc|apply Kd.R_drewN|apply Kd.R_drew));exact HO_3.out⟩,⟨by repeat (first|(with_reducible first|exact HB.out|apply bwA|apply bwN|apply bw1)|exact HB.out)⟩⟩
      case rest =>
       clear HC8
       try clear c1
       try clear p2
       try clear c4
       try clear c4b0
       try clear c5
       try clear c5b0
       try clear c6
       try clear c6b0
       try clear p7
       try clear q7
       try clear hx7
       try clear c10
       try clear c12
       try clear c13
       try clear c13b0
       try clear c13b1
       try clear p2
       try clear p7
       try clear q7
       obtain ⟨kq,x24_7,rfl,HA,HJ7,HO_3,HB⟩:=hcut
       cases kq with
       | zero => exact absurd HA.out (by simp [impl_escape.j1])
       | succ kj7 =>
        have H:=HA.out
        clear HA
        simp only [impl_escape.j1] at H
        by_cases c14 : x24_7 = true
        ·subst c14
         have H1 : (if x3_1.length < 140737488355328 then (impl_escape.l0 kj7 a0 (x3_1 ++ [(bt a0 x9_1)]) (a0.size : Int) (wrap64 (x9_1 + 1))) else (none)) = some r:=by rw [if_pos rfl] at H;exact H
         clear H
         have H:=H1
         clear H1
         by_cases c15 : x3_1.length < 140737488355328
         ·rw [if_pos c15] at H
          have LMc15:=aMk c15
          clear c15
          obtain ⟨y393,hy393⟩ : ∃ y_ : List Int,y_ = (x3_1 ++ [(bt a0 x9_1)]):=⟨_,rfl⟩
          replace H : (impl_escape.l0 kj7 a0 y393 (a0.size : Int) (wrap64 (x9_1 + 1))) = some r:=by first|(rw [hy393];with_reducible exact H)|(have H2_:=(Option.bind_some _ _).symm.trans H;rw [hy393];with_reducible exact H2_)|(have H2_:=(Option.bind_some _ _).symm.trans H;with_reducible exact H2_) | with_reducible exact H|(rw [hy393];exact H)|exact H
          have Ny393:=aMk hy393
          clear hy393
          have H':=aMk H
          clear H
          go_wp2_with (first|((with_reducible refine gate_builtin (b:=.append) (xs:=#[.tmp 39,.tmp 41]) rfl ?_);at_builtin;refine Kd.R_append (Kd.int .u8) (w0:=w) w.heap.size rfl (.tmp 39) (.tmp 41) 38 5 (.int .u8 0) 1 rfl Tryd.underlying38 info5 rfl (by decide) (by omega) u3 x3_1 (bt a0 x9_1) [.int .u8 (bt a0 x9_1)] (fun _ => True) (fun _ => False) rfl rfl ?aP (fun _ hk => hk.elim) ?aF ?aO ?aB ?aS ?aL ?_;(case aP => exact rfl);(case aB => exact (by repeat first|exact HB.out|apply bwA|apply bwN|apply bw1));(case aF => exact (fun _ _ => trivial));(case aO => exact (by (with_reducible repeat (first|apply Kd.R_alloc|apply Kd.R_drewN|apply Kd.R_drew));exact HO_3.out));(case aS => exact (below_size (by repeat first|exact HB.out|apply bwA|apply bwN|apply bw1)));(case aL => have:=LMc15.out;omega);intro v394 w16 ho hb hg hat;rw [← Ny393.out] at ho;have n0_:=aMk (hb);have n1_:=aMk (ho);clear HB;clear HO_3;have HB:=n0_;have HO395:=n1_;clear n0_ n1_;clear ho hb hg hat))
          go_roundg kj7
          case measure => have:=HK1.out;have:=HJ7.out;omega
          case rel => exact ⟨(y393),(wrap64 (x9_1 + 1)),(by first | rfl|(simp;done)|(simp [*];done)|(simp [ne_nil_b];done)|(simp [ne_nil_b, *];done)),H',⟨by have:=HK1.out;have:=HJ7.out;omega⟩,⟨by (with_reducible repeat (first|apply Kd.R_alloc|apply Kd.R_drewN|apply Kd.R_drew));exact HO395.out⟩,⟨by repeat (first|(with_reducible first|exact HB.out|apply bwA|apply bwN|apply bw1)|exact HB.out)⟩⟩
         ·rw [if_neg c15] at H
          exact absurd H (by simp)
        ·replace c14:=Bool.eq_false_iff.mpr c14
         subst c14
         have H1 : (if (bt a0 x9_1) = 32 then (if x3_1.length < 140737488355328 then (impl_escape.l0 kj7 a0 (x3_1 ++ [43]) (a0.size : Int) (wrap64 (x9_1 + 1))) else (none)) else (if 0 ≤ ((Int.tdiv (bt a0 x9_1) 16) % 256) then (if ((Int.tdiv (bt a0 x9_1) 16) % 256) < 16 then (if 0 ≤ (Int.tmod (bt a0 x9_1) 16) then (if (Int.tmod (bt a0 x9_1) 16) < 16 then ((some (([37,bt (⟨#[48,49,50,51,52,53,54,55,56,57,65,66,67,68,69,70]⟩ : ByteArray) ((Int.tdiv (bt a0 x9_1) 16) % 256),bt (⟨#[48,49,50,51,52,53,54,55,56,57,65,66,67,68,69,70]⟩ : ByteArray) (Int.tmod (bt a0 x9_1) 16)] : List Int) : List Int)).bind fun y399 => (if x3_1.length + y399.length < 140737488355328 then (impl_escape.l0 kj7 a0 (x3_1 ++ y399) (a0.size : Int) (wrap64 (x9_1 + 1))) else (none))) else (none)) else (none)) else (none)) else (none))) = some r:=by rw [if_neg (show ¬ (false = true) by decide)] at H;exact H
         clear H
         have H:=H1
         clear H1
         by_cases c17 : (bt a0 x9_1) = 32
         ·rw [if_pos c17] at H
          have c17b0 : ((bt a0 x9_1) == 32) = true:=beq_iff_eq.mpr c17
          have c17b1 : ((bt a0 x9_1) != 32) = false:=bne_eq_false_iff_eq.mpr c17
          clear c17
          by_cases c18 : x3_1.length < 140737488355328
          ·rw [if_pos c18] at H
           have LMc18:=aMk c18
           clear c18
           obtain ⟨y396,hy396⟩ : ∃ y_ : List Int,y_ = (x3_1 ++ [43]):=⟨_,rfl⟩
           replace H : (impl_escape.l0 kj7 a0 y396 (a0.size : Int) (wrap64 (x9_1 + 1))) = some r:=by first|(rw [hy396];with_reducible exact H)|(have H2_:=(Option.bind_some _ _).symm.trans H;rw [hy396];with_reducible exact H2_)|(have H2_:=(Option.bind_some _ _).symm.trans H;with_reducible exact H2_) | with_reducible exact H|(rw [hy396];exact H)|exact H
           have Ny396:=aMk hy396
           clear hy396
           have H':=aMk H
           clear H
           go_wp2_with (first|((with_reducible refine gate_builtin (b:=.append) (xs:=#[.tmp 46,.tmp 47]) rfl ?_);at_builtin;refine Kd.R_append (Kd.int .u8) (w0:=w) w.heap.size rfl (.tmp 46) (.tmp 47) 38 5 (.int .u8 0) 1 rfl Tryd.underlying38 info5 rfl (by decide) (by omega) u3 x3_1 43 [.int .u8 43] (fun _ => True) (fun _ => False) rfl rfl ?aP (fun _ hk => hk.elim) ?aF ?aO ?aB ?aS ?aL ?_;(case aP => exact rfl);(case aB => exact (by repeat first|exact HB.out|apply bwA|apply bwN|apply bw1));(case aF => exact (fun _ _ => trivial));(case aO => exact (by (with_reducible repeat (first|apply Kd.R_alloc|apply Kd.R_drewN|apply Kd.R_drew));exact HO_3.out));(case aS => exact (below_size (by repeat first|exact HB.out|apply bwA|apply bwN|apply bw1)));(case aL => have:=LMc18.out;omega);intro v397 w19 ho hb hg hat;rw [← Ny396.out] at ho;have n0_:=aMk (hb);have n1_:=aMk (ho);clear HB;clear HO_3;have HB:=n0_;have HO398:=n1_;clear n0_ n1_;clear ho hb hg hat))
           go_roundg kj7
           case measure => have:=HK1.out;have:=HJ7.out;omega
           case rel => exact ⟨(y396),(wrap64 (x9_1 + 1)),(by first | rfl|(simp;done)|(simp [*];done)|(simp [ne_nil_b];done)|(simp [ne_nil_b, *];done)),H',⟨by have:=HK1.out;have:=HJ7.out;omega⟩,⟨by (with_reducible repeat (first|apply Kd.R_alloc|apply Kd.R_drewN|apply Kd.R_drew));exact HO398.out⟩,⟨by repeat (first|(with_reducible first|exact HB.out|apply bwA|apply bwN|apply bw1)|exact HB.out)⟩⟩
          ·rw [if_neg c18] at H
           exact absurd H (by simp)
         ·rw [if_neg c17] at H
          have c17b0 : ((bt a0 x9_1) == 32) = false:=beq_eq_false_iff_ne.mpr c17
          have c17b1 : ((bt a0 x9_1) != 32) = true:=bne_iff_ne.mpr c17
          obtain ⟨ji20,hji20⟩ : ∃ j_ : Int,((Int.tdiv (bt a0 x9_1) 16) % 256) = j_:=⟨_,rfl⟩
          have hji20w : IntKind.u8.wrap (Int.tdiv (bt a0 x9_1) 16) = ji20:=by rw [show IntKind.u8.wrap (Int.tdiv (bt a0 x9_1) 16) = (Int.tdiv (bt a0 x9_1) 16) % 256 by simp [IntKind.wrap,IntKind.bits,IntKind.signed]];exact hji20
          replace H : (if 0 ≤ (ji20) then (if (ji20) < 16 then (if 0 ≤ (Int.tmod (bt a0 x9_1) 16) then (if (Int.tmod (bt a0 x9_1) 16) < 16 then ((some (([37,bt (⟨#[48,49,50,51,52,53,54,55,56,57,65,66,67,68,69,70]⟩ : ByteArray) (ji20),bt (⟨#[48,49,50,51,52,53,54,55,56,57,65,66,67,68,69,70]⟩ : ByteArray) (Int.tmod (bt a0 x9_1) 16)] : List Int) : List Int)).bind fun y399 => (if x3_1.length + y399.length < 140737488355328 then (impl_escape.l0 kj7 a0 (x3_1 ++ y399) (a0.size : Int) (wrap64 (x9_1 + 1))) else (none))) else (none)) else (none)) else (none)) else (none)) = some r:=by first|(rw [hji20] at H;exact H)|(simp only [hji20] at H ⊢;exact H)
          by_cases c21 : 0 ≤ (ji20)
          ·rw [if_pos c21] at H
           have c21b0 : decide (0 ≤ (ji20)) = true:=decide_eq_true c21
           clear c21
           by_cases c22 : (ji20) < 16
           ·rw [if_pos c22] at H
            have c22b0 : decide ((ji20) < 16) = true:=decide_eq_true c22
            clear c22
            obtain ⟨ji24,hji24⟩ : ∃ j_ : Int,(Int.tmod (bt a0 x9_1) 16) = j_:=⟨_,rfl⟩
            replace H : (if 0 ≤ (ji24) then (if (ji24) < 16 then ((some (([37,bt (⟨#[48,49,50,51,52,53,54,55,56,57,65,66,67,68,69,70]⟩ : ByteArray) (ji20),bt (⟨#[48,49,50,51,52,53,54,55,56,57,65,66,67,68,69,70]⟩ : ByteArray) (ji24)] : List Int) : List Int)).bind fun y399 => (if x3_1.length + y399.length < 140737488355328 then (impl_escape.l0 kj7 a0 (x3_1 ++ y399) (a0.size : Int) (wrap64 (x9_1 + 1))) else (none))) else (none)) else (none)) = some r:=by first|(rw [hji24] at H;exact H)|(simp only [hji24] at H ⊢;exact H)
            by_cases c25 : 0 ≤ (ji24)
            ·rw [if_pos c25] at H
             have c25b0 : decide (0 ≤ (ji24)) = true:=decide_eq_true c25
             clear c25
             by_cases c26 : (ji24) < 16
             ·rw [if_pos c26] at H
              have c26b0 : decide ((ji24) < 16) = true:=decide_eq_true c26
              clear c26
              obtain ⟨y399,hy399⟩ : ∃ y_ : List Int,y_ = (([37,bt (⟨#[48,49,50,51,52,53,54,55,56,57,65,66,67,68,69,70]⟩ : ByteArray) (ji20),bt (⟨#[48,49,50,51,52,53,54,55,56,57,65,66,67,68,69,70]⟩ : ByteArray) (ji24)] : List Int)):=⟨_,rfl⟩
              replace H : (if x3_1.length + y399.length < 140737488355328 then (impl_escape.l0 kj7 a0 (x3_1 ++ y399) (a0.size : Int) (wrap64 (x9_1 + 1))) else (none)) = some r:=by first|(rw [hy399];with_reducible exact H)|(have H2_:=(Option.bind_some _ _).symm.trans H;rw [hy399];with_reducible exact H2_)|(have H2_:=(Option.bind_some _ _).symm.trans H;with_reducible exact H2_) | with_reducible exact H|(rw [hy399];exact H)|exact H
              have Ny399:=aMk hy399
              clear hy399
              by_cases c28 : x3_1.length + y399.length < 140737488355328
              ·rw [if_pos c28] at H
               have LMc28:=aMk c28
               clear c28
               obtain ⟨y402,hy402⟩ : ∃ y_ : List Int,y_ = (x3_1 ++ y399):=⟨_,rfl⟩
               replace H : (impl_escape.l0 kj7 a0 y402 (a0.size : Int) (wrap64 (x9_1 + 1))) = some r:=by first|(rw [hy402];with_reducible exact H)|(have H2_:=(Option.bind_some _ _).symm.trans H;rw [hy402];with_reducible exact H2_)|(have H2_:=(Option.bind_some _ _).symm.trans H;with_reducible exact H2_) | with_reducible exact H|(rw [hy402];exact H)|exact H
               have Ny402:=aMk hy402
               clear hy402
               have H':=aMk H
               clear H
               try go_wp2
               have n0_:=aMk (Kd.R_drew HO_3.out)
               have n1_:=aMk (bw1 HB.out)
               clear HO_3
               clear HB
               have HO_3:=n0_
               have HB:=n1_
               clear n0_ n1_
               have p23 : 0 ≤ ((ji20) : Int):=of_decide_eq_true (by first|(with_reducible assumption) | assumption)
               have q23 : (ji20) < (16 : Int):=of_decide_eq_true (by first|(with_reducible assumption) | assumption)
               have hx23:=bt_at (⟨#[48,49,50,51,52,53,54,55,56,57,65,66,67,68,69,70]⟩ : ByteArray) (ji20)
               replace p23:=eq_true p23
               replace q23:=eq_true q23
               have p27 : 0 ≤ ((ji24) : Int):=of_decide_eq_true (by first|(with_reducible assumption) | assumption)
               have q27 : (ji24) < (16 : Int):=of_decide_eq_true (by first|(with_reducible assumption) | assumption)
               have hx27:=bt_at (⟨#[48,49,50,51,52,53,54,55,56,57,65,66,67,68,69,70]⟩ : ByteArray) (ji24)
               replace p27:=eq_true p27
               replace q27:=eq_true q27
               refine start_ (n:=10) (S:=fun w' => True) (ds:=[]) #[false,false,false,false,false,false,false,false,false,false] (by kernel_rfl) rfl rfl trivial (fun hHeld => ?_);refine with_tabW impl_escape.tab6 impl_escape.bits6 (fun HT_ HW_ => ?_)
               generalize wc.drew = w29 at HO_3 HB hHeld ⊢
               refine pure_ (i:=0) (N:=some 15) (v:=?_) (a':=?_) #[true,false,false,false,false,false,false,false,false,false] rfl rfl (any_of HT_.out (by kernel_rfl)) (fun _ _ _ h => h) (Or.inl ⟨by rfl,?_⟩) ?_ ?_
               rotate_left
               ·intro w'
                go_simp
                with_reducible rfl
               rotate_left
               ·simp only [Act.put,List.setIfInBounds_toArray,List.set_cons_zero,List.set_cons_succ,i64_w,i32_w]
                rfl
               refine pure_ (i:=1) (N:=some 16) (v:=?_) (a':=?_) #[true,true,false,false,false,false,false,false,false,false] rfl rfl (any_of HT_.out (by kernel_rfl)) (fun _ _ _ h => h) (Or.inl ⟨by rfl,?_⟩) ?_ ?_
               rotate_left
               ·intro w'
                go_simp
                with_reducible rfl
               rotate_left
               ·simp only [Act.put,List.setIfInBounds_toArray,List.set_cons_zero,List.set_cons_succ,i64_w,i32_w]
                rfl
               refine pure_ (i:=2) (N:=some 17) (v:=?_) (a':=?_) #[true,true,true,false,false,false,false,false,false,false] rfl rfl (any_of HT_.out (by kernel_rfl)) (fun _ _ _ h => h) (Or.inl ⟨by rfl,?_⟩) ?_ ?_
               rotate_left
               ·intro w'
                go_simp
                with_reducible rfl
               rotate_left
               ·simp only [Act.put,List.setIfInBounds_toArray,List.set_cons_zero,List.set_cons_succ,i64_w,i32_w]
                rfl
               refine pure_ (i:=4) (N:=some 19) (v:=?_) (a':=?_) #[true,true,true,false,true,false,false,false,false,false] rfl rfl (any_of HT_.out (by kernel_rfl)) (fun _ _ _ h => h) (Or.inl ⟨by rfl,?_⟩) ?_ ?_
               rotate_left
               ·intro w'
                go_simp
                with_reducible rfl
               rotate_left
               ·simp only [Act.put,List.setIfInBounds_toArray,List.set_cons_zero,List.set_cons_succ,i64_w,i32_w]
                rfl
               refine pure_ (i:=5) (N:=some 20) (v:=?_) (a':=?_) #[true,true,true,false,true,true,false,false,false,false] rfl rfl (any_of HT_.out (by kernel_rfl)) (fun _ _ _ h => h) (Or.inl ⟨by rfl,?_⟩) ?_ ?_
               rotate_left
               ·intro w'
                go_simp
                with_reducible rfl
               rotate_left
               ·simp only [Act.put,List.setIfInBounds_toArray,List.set_cons_zero,List.set_cons_succ,i64_w,i32_w]
                rfl
               refine take_ (i:=3) (N:=some 18) (v:=?_) (a':=?_) #[true,true,true,true,true,true,false,false,false,false] rfl rfl (take_ofW HT_.out HW_.out (by kernel_rfl)) (fun _ _ _ h => h) (Or.inl ⟨by rfl,?_⟩) hHeld ?_ ?_
               rotate_left
               ·intro w' _
                go_simp
                with_reducible rfl
               rotate_left
               ·simp only [Act.put,List.setIfInBounds_toArray,List.set_cons_zero,List.set_cons_succ,i64_w,i32_w]
                rfl
               refine take_ (i:=6) (N:=some 21) (v:=?_) (a':=?_) #[true,true,true,true,true,true,true,false,false,false] rfl rfl (take_ofW HT_.out HW_.out (by kernel_rfl)) (fun _ _ _ h => h) (Or.inl ⟨by rfl,?_⟩) hHeld ?_ ?_
               rotate_left
               ·intro w' _
                go_simp
                with_reducible rfl
               rotate_left
               ·simp only [Act.put,List.setIfInBounds_toArray,List.set_cons_zero,List.set_cons_succ,i64_w,i32_w]
                rfl
               refine one_ (i:=7) (N:=some 22) #[true,true,true,true,true,true,true,true,false,false] rfl rfl (one_of HT_.out (by kernel_rfl)) (by decide) (fun K hK => ?_)
               refine Kd.R_lit_step (Kd.int .u8) _ 5 ?hg (N:=22) ?hd (xs:=([37,bt (⟨#[48,49,50,51,52,53,54,55,56,57,65,66,67,68,69,70]⟩ : ByteArray) (ji20),bt (⟨#[48,49,50,51,52,53,54,55,56,57,65,66,67,68,69,70]⟩ : ByteArray) (ji24)] : List Int)) (inner:=[.int .u8 37,.int .u8 (bt (⟨#[48,49,50,51,52,53,54,55,56,57,65,66,67,68,69,70]⟩ : ByteArray) (ji20)),.int .u8 (bt (⟨#[48,49,50,51,52,53,54,55,56,57,65,66,67,68,69,70]⟩ : ByteArray) (ji24))]) (ok:=fun _ => True) (okp:=fun _ => True) ?hr ?hp (fun _ hk => hk) trivial (Below.refl _ _) (Nat.le_refl _) (by simp) ?_;(case hd => rfl);(case hg => rfl);(case hr => first|(go_simp;done)|(go_simp;rfl));(case hp => exact (Reps.one (show Kd.M (Kd.int .u8) _ _ _ 37 [.int .u8 37] from rfl) (Reps.one (show Kd.M (Kd.int .u8) _ _ _ (bt (⟨#[48,49,50,51,52,53,54,55,56,57,65,66,67,68,69,70]⟩ : ByteArray) (ji20)) [.int .u8 (bt (⟨#[48,49,50,51,52,53,54,55,56,57,65,66,67,68,69,70]⟩ : ByteArray) (ji20))] from rfl) (Reps.one (show Kd.M (Kd.int .u8) _ _ _ (bt (⟨#[48,49,50,51,52,53,54,55,56,57,65,66,67,68,69,70]⟩ : ByteArray) (ji24)) [.int .u8 (bt (⟨#[48,49,50,51,52,53,54,55,56,57,65,66,67,68,69,70]⟩ : ByteArray) (ji24))] from rfl) (Reps.none _ _)))))
               intro v400 w30 ho31 hb hg_ hnew_
               clear hg_ hnew_
               (first|rw [← Ny399.out] at ho31|(simp only [Int.reduceToNat] at ho31;rw [← Ny399.out] at ho31))
               have n0_:=aMk (Kd.R_elder' (by (with_reducible repeat (first|apply Kd.R_alloc|apply Kd.R_drewN|apply Kd.R_drew));exact HO_3.out) (Kd.R_base ho31) hb)
               have n1_:=aMk (Kd.R_lower (Kd.R_new' ho31 (Kd.R_lt (by (with_reducible repeat (first|apply Kd.R_alloc|apply Kd.R_drewN|apply Kd.R_drew));exact HO_3.out))) (below_size (by repeat first|exact HB.out|apply bwA|apply bwN|apply bw1)))
               have n2_:=aMk (below_step (by repeat first|exact HB.out|apply bwA|apply bwN|apply bw1) hb)
               clear HO_3
               clear HB
               have HO_3:=n0_
               have HO401:=n1_
               have HB:=n2_
               clear n0_ n1_ n2_
               clear hb ho31
               obtain ⟨Ao33,co33,eo33⟩:=Kd.R_slice HO401.out
               (first|subst eo33|(injection eo33 with f1_ f2_ f3_;have f4_:=f1_.symm;have f5_:=f3_.symm;clear f1_ f2_ f3_;subst f4_;subst f5_))
               refine hK.out _ _ trivial (fun hHeld => ?_)
               clear hK K
               refine norm_ (a':=?_) ?_ ?_
               rotate_left
               ·show Act.put _ (some 22) _ = _
                simp only [Act.put,List.setIfInBounds_toArray,List.set_cons_zero,List.set_cons_succ,i64_w,i32_w]
                rfl
               refine one_ (i:=8) (N:=some 23) #[true,true,true,true,true,true,true,true,true,false] rfl rfl (one_of HT_.out (by kernel_rfl)) (by decide) (fun K hK => ?_)
               refine Kd.R_append_rows_step (Kd.int .u8) (w0:=w) w.heap.size (by rfl) (.tmp 15) (.tmp 22) 38 5 (.int .u8 0) 1 rfl Tryd.underlying38 info5 rfl (by decide) (by omega) u3 x3_1 y399 _ _ _ (fun k_ => some k_ ≠ (.slice Ao33 y399.length co33 : Value).ownBlock) (fun _ => False) rfl rfl ?aO ?aR (fun _ _ h => h) (fun _ h => h.elim) ?aF ?aB ?aS ?aL ?_
               (case aR => repeat (first|exact (Kd.R_reads' HO401.out).2.2|(with_reducible refine Kd.C_alloc ?_ _)|(with_reducible refine Kd.C_drewN ?_ _)|(with_reducible refine Kd.C_drew ?_)))
               (case aB => exact (by repeat first|exact HB.out|apply bwA|apply bwN|apply bw1))
               (case aF => exact (fun k_ hk => Kd.fresh' (Kd.R_lt (by (with_reducible repeat (first|apply Kd.R_alloc|apply Kd.R_drewN|apply Kd.R_drew));exact HO401.out)) k_ hk))
               (case aO => exact (by (with_reducible repeat (first|apply Kd.R_alloc|apply Kd.R_drewN|apply Kd.R_drew));exact Kd.R_mono HO_3.out (fun _ hk => hk.2)))
               (case aS => exact (below_size (by repeat first|exact HB.out|apply bwA|apply bwN|apply bw1)))
               (case aL => have:=LMc28.out;omega)
               intro v403 w32 ho hb hg hat
               rw [← Ny402.out] at ho
               have n0_:=aMk (Kd.R_after (ok:=(fun _ => True)) (by (with_reducible repeat (first|apply Kd.R_alloc|apply Kd.R_drewN|apply Kd.R_drew));exact HO401.out) hg hat)
               have n1_:=aMk (hb)
               have n2_:=aMk (ho)
               clear HO401
               clear HB
               clear HO_3
               have HO401:=n0_
               have HB:=n1_
               have HO404:=n2_
               clear n0_ n1_ n2_
               clear ho hb hg hat
               refine hK.out _ _ trivial (fun hHeld => ?_)
               clear hK K
               refine norm_ (a':=?_) ?_ ?_
               rotate_left
               ·show Act.put _ (some 23) _ = _
                simp only [Act.put,List.setIfInBounds_toArray,List.set_cons_zero,List.set_cons_succ,i64_w,i32_w]
                rfl
               refine pure_ (i:=9) (N:=some 3) (v:=?_) (a':=?_) #[true,true,true,true,true,true,true,true,true,true] rfl rfl (any_of HT_.out (by kernel_rfl)) (fun _ _ _ h => h) (Or.inl ⟨by rfl,?_⟩) ?_ ?_
               rotate_left
               ·intro w'
                go_simp
                with_reducible rfl
               rotate_left
               ·simp only [Act.put,List.setIfInBounds_toArray,List.set_cons_zero,List.set_cons_succ,i64_w,i32_w]
                rfl
               refine done_ (done_of HT_.out (by kernel_rfl)) ?_
               try go_wp2
               go_roundg kj7
               case measure => have:=HK1.out;have:=HJ7.out;omega
               case rel => exact ⟨(y402),(wrap64 (x9_1 + 1)),(by first | rfl|(simp;done)|(simp [*];done)|(simp [ne_nil_b];done)|(simp [ne_nil_b, *];done)),H',⟨by have:=HK1.out;have:=HJ7.out;omega⟩,⟨by (with_reducible repeat (first|apply Kd.R_alloc|apply Kd.R_drewN|apply Kd.R_drew));exact Kd.R_mono HO404.out (fun _ hk => trivial)⟩,⟨by repeat (first|(with_reducible first|exact HB.out|apply bwA|apply bwN|apply bw1)|exact HB.out)⟩⟩
              ·rw [if_neg c28] at H
               exact absurd H (by simp)
             ·rw [if_neg c26] at H
              exact absurd H (by simp)
            ·rw [if_neg c25] at H
             exact absurd H (by simp)
           ·rw [if_neg c22] at H
            exact absurd H (by simp)
          ·rw [if_neg c21] at H
           exact absurd H (by simp)
     ·rw [if_neg c6] at H
      exact absurd H (by simp)
    ·rw [if_neg c5] at H
     exact absurd H (by simp)
   ·rw [if_neg c4] at H
    have c4b0 : decide (x9_1 < (a0.size : Int)) = false:=decide_eq_false c4
    clear c4
    obtain rfl:=Option.some.inj H
    have hcv34:=own_string (P:=Tryd.prog) Tryd.underlying38 Tryd.underlying5 Tryd.underlying9 (Kd.own_of_R HO_3.out)
    go_wp2
    go_ret
    exact ⟨by first | rfl|(simp [errW_none,errW_some] <;> rfl)|(simp [*,errW_none,errW_some] <;> rfl),by repeat (first|(with_reducible first|exact HB.out|apply bwA|apply bwN|apply bw1)|exact HB.out)⟩
end
section
/-! ### strings_Join: function 47 -/
-- IMPORT Derived.Shelf.Strings.OnBuilder
-- IMPORT Derived.Lib.Join
def joinRen : Go.Shelf.Ren:=⟨fun x => match x with | 156 => 47 | 165 => 70 | 166 => 71 | 169 => 72 | 240 => 90 | 241 => 91 | 276 => 99 | 277 => 100 | n => n,fun x => match x with | 31 => 59 | 9 => 9 | 3 => 3 | 4 => 4 | 0 => 0 | 20 => 20 | 72 => 79 | 76 => 83 | 70 => 77 | 37 => 38 | 75 => 82 | 127 => 95 | 164 => 99 | 5 => 5 | 80 => 85 | n => n,fun n => n⟩
set_option maxRecDepth 100000 in
theorem joinLays : Go.Proofs.Lays.n156 Tryd.prog joinRen:={ mixed:=by kernel_rfl,f156:=Tryd.func47.trans (congrArg some (by kernel_rfl)),f165:=Tryd.func70.trans (congrArg some (by kernel_rfl)),f166:=Tryd.func71.trans (congrArg some (by kernel_rfl)),f169:=Tryd.func72.trans (congrArg some (by kernel_rfl)),f240:=Tryd.func90.trans (congrArg some (by kernel_rfl)),f241:=Tryd.func91.trans (congrArg some (by kernel_rfl)),f276:=Tryd.func99.trans (congrArg some (by kernel_rfl)),f277:=Tryd.func100.trans (congrArg some (by kernel_rfl)),t0:=Tryd.underlying0,a0:=Tryd.isAgg0,z0:=Tryd.sizeOf0,v0:=Tryd.zeroValue0,t3:=Tryd.underlying3,a3:=Tryd.isAgg3,z3:=Tryd.sizeOf3,v3:=Tryd.zeroValue3,t4:=Tryd.underlying4,a4:=Tryd.isAgg4,z4:=Tryd.sizeOf4,v4:=Tryd.zeroValue4,t9:=Tryd.underlying9,a9:=Tryd.isAgg9,z9:=Tryd.sizeOf9,v9:=Tryd.zeroValue9,t20:=Tryd.underlying20,a20:=Tryd.isAgg20,z20:=Tryd.sizeOf20,v20:=Tryd.zeroValue20,t31:=Tryd.underlying59,a31:=Tryd.isAgg59,z31:=Tryd.sizeOf59,v31:=Tryd.zeroValue59,t37:=Tryd.underlying38,a37:=Tryd.isAgg38,z37:=Tryd.sizeOf38,v37:=Tryd.zeroValue38,t70:=Tryd.underlying77,a70:=Tryd.isAgg77,z70:=Tryd.sizeOf77,v70:=Tryd.zeroValue77,t72:=Tryd.underlying79,a72:=Tryd.isAgg79,z72:=Tryd.sizeOf79,v72:=Tryd.zeroValue79,t75:=Tryd.underlying82,a75:=Tryd.isAgg82,z75:=Tryd.sizeOf82,v75:=Tryd.zeroValue82,t76:=Tryd.underlying83,a76:=Tryd.isAgg83,z76:=Tryd.sizeOf83,v76:=Tryd.zeroValue83,t127:=Tryd.underlying95,a127:=Tryd.isAgg95,z127:=Tryd.sizeOf95,v127:=Tryd.zeroValue95,t164:=Tryd.underlying99,a164:=Tryd.isAgg99,z164:=Tryd.sizeOf99,v164:=Tryd.zeroValue99 }
theorem joinExtra : Go.Proofs.Builder.Extra Tryd.prog joinRen:={ sizeBuilder:=by kernel_rfl,liesBuilder:=by kernel_rfl,t5:=Tryd.underlying5,a5:=Tryd.isAgg5,z5:=Tryd.sizeOf5,v5:=Tryd.zeroValue5,infoByte:=by kernel_rfl,cellsByte:=by kernel_rfl,sizeByte:=by kernel_rfl,neB5:=by decide }
def joinB (l : List ByteArray) (sep : ByteArray) : List UInt8:=Lib.join (l.map (·.data.toList)) sep.data.toList
def strings_Join.f (l0 : List ByteArray) (a1 : ByteArray) : Option ByteArray:=if (joinB l0 a1).length ≤ 140737488355328 ∧ l0.length ≤ 140737488355328 then some ⟨(joinB l0 a1).toArray⟩ else none
theorem strings_Join.calls (A0 : Option Addr) (c0 : Nat) (l0 : List ByteArray) (a1 : ByteArray) (r : ByteArray) (w : World) (hr0 : Kd.C Kd.string w A0 l0.length l0) (hc0 : l0.length ≤ c0) (h : strings_Join.f l0 a1 = some r) :
  Calls Tryd.prog 47 #[.slice A0 l0.length c0,.string a1] w fun e w' => e = .returned (.string r) ∧ Below w.heap.size w w':=by
 by_cases hb : (joinB l0 a1).length ≤ 140737488355328 ∧ l0.length ≤ 140737488355328
 ·rw [strings_Join.f,if_pos hb] at h
  obtain rfl:=Option.some.inj h
  rcases Nat.eq_zero_or_pos l0.length with h0 | h0
  ·obtain rfl:=List.eq_nil_of_length_eq_zero h0
   refine (Any.strings_Join_none joinLays joinExtra A0 c0 a1 w).mono fun e w' hh => ?_
   obtain ⟨he,rfl⟩:=hh
   exact ⟨he,Below.refl _ _⟩
  ·obtain ⟨ad,rfl,hc⟩:=Kd.at_string hr0 0 (by omega) (by omega)
   have hspot : ad.spot = none:=by
    rw [show ((0 : Int)).toNat = 0 from rfl,Addr.add_zero'] at hc
    cases hs : ad.spot with
    | none => rfl
    | some q =>
     exfalso
     unfold World.cell? at hc
     rw [hs] at hc
     split at hc
     ·simp at hc
     ·cases hc
   have hlt : ad.block < w.heap.size:=Kd.C_lt hr0 h0 (by decide)
   obtain ⟨bk,o,sp⟩:=ad
   have hsp : sp = none:=hspot
   subst hsp
   refine (Any.strings_Join joinLays joinExtra bk o c0 l0 a1 w (fun j x hj => ?_) hlt hb.2 hc0 hb.1).mono fun e w' hh => hh
   have hjl : j < l0.length:=(List.getElem?_eq_some_iff.1 hj).1
   obtain ⟨ad2,he2,hc2⟩:=Kd.at_string hr0 (j : Int) (by omega) (by omega)
   obtain rfl:=Option.some.inj he2
   have ea : (⟨bk,o,none⟩ : Addr).add j = ⟨bk,o + j,none⟩:=by unfold Addr.add;split <;> simp_all
   rw [Int.toNat_natCast,ea] at hc2
   rw [hc2,rdOf,Int.toNat_natCast,List.getD_eq_getElem?_getD,hj]
   rfl
 ·rw [strings_Join.f,if_neg hb] at h
  cases h
end
section
/-! ### impl_FormText: function 20 -/
mutual
def impl_FormText.l0 : Nat → List ByteArray → List (S55) → Int → Int → Option (ByteArray × Int)
 | 0,_,_,_,_ => none
 | k + 1,x4,x16,x17,x18 => if x18 < x17 then (if 0 ≤ x18 then (if x18 < (x16.length : Int) then (if ((rd_T55 x16 x18).f0).toList = ([] : List UInt8) then (impl_FormText.j1 k x4 x16 x17 x18 true ((rd_T55 x16 x18).f0) ((rd_T55 x16 x18).f1)) else (if (((rd_T55 x16 x18).f0).size : Int) > 40 then (impl_FormText.j1 k x4 x16 x17 x18 true ((rd_T55 x16 x18).f0) ((rd_T55 x16 x18).f1)) else (impl_FormText.j1 k x4 x16 x17 x18 (decide ((((rd_T55 x16 x18).f1).size : Int) > 40)) ((rd_T55 x16 x18).f0) ((rd_T55 x16 x18).f1)))) else (none)) else (none)) else ((strings_Join.f x4 (⟨#[38]⟩ : ByteArray)).bind fun t408 => (some (t408,0)))
def impl_FormText.j1 : Nat → List ByteArray → List (S55) → Int → Int → Bool → ByteArray → ByteArray → Option (ByteArray × Int)
 | 0,_,_,_,_,_,_,_ => none
 | k + 1,x4,x16,x17,x18,x36,x411000,x411001 => if x36 = true then (some ((⟨#[]⟩ : ByteArray),4)) else ((impl_escape.f k x411000).bind fun t411 => (if t411.size + 1 ≤ 9223372036854775807 then ((impl_escape.f k x411001).bind fun t412 => (if (t411 ++ (⟨#[61]⟩ : ByteArray)).size + t412.size ≤ 9223372036854775807 then (if x4.length < 8796093022208 then (impl_FormText.l0 k (x4 ++ [(t411 ++ (⟨#[61]⟩ : ByteArray)) ++ t412]) x16 x17 (wrap64 (x18 + 1))) else (none)) else (none))) else (none)))
end
def impl_FormText.f (k : Nat) (l0 : List (S55)) : Option (ByteArray × Int):=if (l0.length : Int) > 4096 then (some ((⟨#[]⟩ : ByteArray),2)) else (if (l0.length : Int) > 8 then (some ((⟨#[]⟩ : ByteArray),6)) else (impl_FormText.l0 k (([] : List ByteArray)) l0 (l0.length : Int) 0))
theorem impl_FormText.mono_l : ∀ k,(∀ y0 y1 y2 y3,LeO (impl_FormText.l0 k y0 y1 y2 y3) (impl_FormText.l0 (k + 1) y0 y1 y2 y3)) ∧ (∀ y0 y1 y2 y3 y4 y5 y6,LeO (impl_FormText.j1 k y0 y1 y2 y3 y4 y5 y6) (impl_FormText.j1 (k + 1) y0 y1 y2 y3 y4 y5 y6))
 | 0 => ⟨fun _ _ _ _ r h => by simp [impl_FormText.l0] at h,fun _ _ _ _ _ _ _ r h => by simp [impl_FormText.j1] at h⟩
 | k + 1 => by
  obtain ⟨ih0,ih1⟩:=impl_FormText.mono_l k
  refine ⟨?_,?_⟩
  ·intro y0 y1 y2 y3
   unfold impl_FormText.l0
   repeat' first
   | (with_reducible exact ih0 _ _ _ _)
   | (with_reducible exact ih1 _ _ _ _ _ _ _)
   | (with_reducible exact impl_escape.mono ..)
   | (with_reducible exact LeO.refl _)
   | (with_reducible exact LeO.none _)
   | (with_reducible refine LeO.ite ?_ ?_)
   | (with_reducible refine LeO.bind ?_ (fun _ => ?_))
   | exact ih0 _ _ _ _
   | exact ih1 _ _ _ _ _ _ _
   | exact impl_escape.mono ..
   | exact LeO.none _
   | refine LeO.ite ?_ ?_
   | refine LeO.bind ?_ (fun _ => ?_)
  ·intro y0 y1 y2 y3 y4 y5 y6
   unfold impl_FormText.j1
   repeat' first
   | (with_reducible exact ih0 _ _ _ _)
   | (with_reducible exact ih1 _ _ _ _ _ _ _)
   | (with_reducible exact impl_escape.mono ..)
   | (with_reducible exact LeO.refl _)
   | (with_reducible exact LeO.none _)
   | (with_reducible refine LeO.ite ?_ ?_)
   | (with_reducible refine LeO.bind ?_ (fun _ => ?_))
   | exact ih0 _ _ _ _
   | exact ih1 _ _ _ _ _ _ _
   | exact impl_escape.mono ..
   | exact LeO.none _
   | refine LeO.ite ?_ ?_
   | refine LeO.bind ?_ (fun _ => ?_)
theorem impl_FormText.mono : ∀ a0 k,LeO (impl_FormText.f k a0) (impl_FormText.f (k + 1) a0):=by
 intro a0 k
 obtain ⟨ih0,ih1⟩:=impl_FormText.mono_l k
 unfold impl_FormText.f
 repeat' first
   | (with_reducible exact ih0 _ _ _ _)
   | (with_reducible exact ih1 _ _ _ _ _ _ _)
   | (with_reducible exact impl_escape.mono ..)
   | (with_reducible exact LeO.refl _)
   | (with_reducible exact LeO.none _)
   | (with_reducible refine LeO.ite ?_ ?_)
   | (with_reducible refine LeO.bind ?_ (fun _ => ?_))
   | exact ih0 _ _ _ _
   | exact ih1 _ _ _ _ _ _ _
   | exact impl_escape.mono ..
   | exact LeO.none _
   | refine LeO.ite ?_ ?_
   | refine LeO.bind ?_ (fun _ => ?_)
def impl_FormText.T11 : Bool × List (List Nat × List Nat):=(true,[([],[]),([],[]),([1],[1]),([2],[2]),([3],[3]),([],[]),([5],[5]),([6,3],[6]),([4,7],[4,7]),([8],[8]),([0,9,7],[0,9]),([10,10,0,1,2,3,4,5,6,7,8,9,10],[0,10])])
def impl_FormText.B11 : List Nat:=[0,0,2,6,14,0,32,110,254,510,1023,2047]
theorem impl_FormText.tab11 : rtab .any (opsOf Tryd.f20 11) = impl_FormText.T11:=by kernel_rfl
theorem impl_FormText.bits11 : waitsOk impl_FormText.T11.2 impl_FormText.B11 = true:=by kernel_rfl
set_option maxHeartbeats 8000000 in
set_option maxRecDepth 100000 in
theorem impl_FormText.calls (k : Nat) (A0 : Option Addr) (c0 : Nat) (l0 : List (S55)) (r1 : ByteArray) (r2 : Int) (w : World) (hr0 : Kd.C k55 w A0 l0.length l0) (hc0 : l0.length ≤ c0) (h : impl_FormText.f k l0 = some (r1,r2)) :
  Calls Tryd.prog 20 #[.slice A0 l0.length c0] w fun e w' => e = .returned (.tuple #[.string r1,.int .i64 r2]) ∧ Below w.heap.size w w':=by
 have hu55:=Tryd.underlying55
 have HR0:=aMk hr0
 have HC0:=aMk hc0
 clear hr0 hc0
 have HB:=aMk (Below.refl w.heap.size w)
 have H : (if (l0.length : Int) > 4096 then (some ((⟨#[]⟩ : ByteArray),2)) else (if (l0.length : Int) > 8 then (some ((⟨#[]⟩ : ByteArray),6)) else (impl_FormText.l0 k (([] : List ByteArray)) l0 (l0.length : Int) 0))) = some (r1,r2):=h
 clear h
 by_cases c2 : (l0.length : Int) > 4096
 ·rw [if_pos c2] at H
  have c2b0 : decide (4096 < (l0.length : Int)) = true:=decide_eq_true c2
  have c2b1 : decide (4096 < l0.length) = true:=decide_eq_true (by omega)
  clear c2
  simp only [Option.some.injEq,Prod.mk.injEq] at H
  obtain ⟨rfl,rfl⟩:=H
  go_enter Tryd.func20,Tryd.ntmps20
  go_wp2
  go_ret2
  exact ⟨by first | rfl|(simp [errW_none,errW_some] <;> rfl)|(simp [*,errW_none,errW_some] <;> rfl),by repeat (first|(with_reducible first|exact HB.out|apply bwA|apply bwN|apply bw1)|exact HB.out)⟩
 ·rw [if_neg c2] at H
  have c2b0 : decide (4096 < (l0.length : Int)) = false:=decide_eq_false c2
  have c2b1 : decide (4096 < l0.length) = false:=decide_eq_false (by omega)
  clear c2
  by_cases c3 : (l0.length : Int) > 8
  ·rw [if_pos c3] at H
   have c3b0 : decide (8 < (l0.length : Int)) = true:=decide_eq_true c3
   have c3b1 : decide (8 < l0.length) = true:=decide_eq_true (by omega)
   clear c3
   simp only [Option.some.injEq,Prod.mk.injEq] at H
   obtain ⟨rfl,rfl⟩:=H
   go_enter Tryd.func20,Tryd.ntmps20
   go_wp2
   go_ret2
   exact ⟨by first | rfl|(simp [errW_none,errW_some] <;> rfl)|(simp [*,errW_none,errW_some] <;> rfl),by repeat (first|(with_reducible first|exact HB.out|apply bwA|apply bwN|apply bw1)|exact HB.out)⟩
  ·rw [if_neg c3] at H
   have c3b0 : decide (8 < (l0.length : Int)) = false:=decide_eq_false c3
   have c3b1 : decide (8 < l0.length) = false:=decide_eq_false (by omega)
   clear c3
   obtain ⟨y405,hy405⟩ : ∃ y_ : List ByteArray,y_ = (([] : List ByteArray)):=⟨_,rfl⟩
   replace H : (impl_FormText.l0 k y405 l0 (l0.length : Int) 0) = some (r1,r2):=by first|(rw [hy405];with_reducible exact H)|(have H2_:=(Option.bind_some _ _).symm.trans H;rw [hy405];with_reducible exact H2_)|(have H2_:=(Option.bind_some _ _).symm.trans H;with_reducible exact H2_) | with_reducible exact H|(rw [hy405];exact H)|exact H
   have Ny405:=aMk hy405
   clear hy405
   have H':=aMk H
   clear H
   go_enter Tryd.func20,Tryd.ntmps20
   go_wp2_with (first|((with_reducible refine gate_dst (N:=15) rfl ?_);(try (refine gate_guard (by rfl) ?_;dsimp only));refine Kd.R_lit Kd.string _ 9 ?hg (N:=15) ?hd (xs:=([] : List ByteArray)) (inner:=[]) (ok:=fun _ => True) (okp:=fun _ => True) ?hr ?hp (fun _ hk => hk) trivial (Below.refl _ _) (Nat.le_refl _) (by simp) ?_;(case hd => rfl);(case hg => rfl);(case hr => first|(go_simp;done)|(go_simp;rfl));(case hp => exact (Reps.none _ _));intro v406 w4 ho5 hb hg_ hnew_;clear hg_ hnew_;(first|rw [← Ny405.out] at ho5|(simp only [Int.reduceToNat] at ho5;rw [← Ny405.out] at ho5));have n0_:=aMk (Kd.R_lower ho5 (below_size (by repeat first|exact HB.out|apply bwA|apply bwN|apply bw1)));have n1_:=aMk (below_step (by repeat first|exact HB.out|apply bwA|apply bwN|apply bw1) hb);clear HB;have HO407:=n0_;have HB:=n1_;clear n0_ n1_;clear hb ho5))
   go_loopg [4,18] k (fun kq v4 v18 w' => ∃ (x4_1 : List ByteArray) (x18_1 : Int),v18 = .int .i64 x18_1 ∧ Aside0 (impl_FormText.l0 kq x4_1 l0 (l0.length : Int) x18_1 = some (r1,r2)) ∧ Aside0 (kq ≤ k) ∧ Aside0 (Kd.R Kd.string 9 w' w.heap.size (fun _ => True) v4 x4_1) ∧ Aside0 (Below w.heap.size w w'))
   case atStart => exact ⟨(y405),(0),(by first | rfl|(simp;done)|(simp [*];done)|(simp [ne_nil_b];done)|(simp [ne_nil_b, *];done)),H',⟨Nat.le_refl _⟩,⟨by (with_reducible repeat (first|apply Kd.R_alloc|apply Kd.R_drewN|apply Kd.R_drew));exact HO407.out⟩,⟨by repeat (first|(with_reducible first|exact HB.out|apply bwA|apply bwN|apply bw1)|exact HB.out)⟩⟩
   case round =>
    clear H'
    try clear c2
    try clear c2b0
    try clear c2b1
    try clear p2
    try clear c3
    try clear c3b0
    try clear c3b1
    obtain ⟨x4_1,x18_1,rfl,HA,HK1,HO_4,HB⟩:=hrel
    cases gk with
    | zero => exact absurd HA.out (by simp [impl_FormText.l0])
    | succ k1 =>
     have H:=HA.out
     clear HA
     simp only [impl_FormText.l0] at H
     by_cases c6 : x18_1 < (l0.length : Int)
     ·rw [if_pos c6] at H
      have c6b0 : decide (x18_1 < (l0.length : Int)) = true:=decide_eq_true c6
      clear c6
      by_cases c7 : 0 ≤ x18_1
      ·rw [if_pos c7] at H
       have c7b0 : decide (0 ≤ x18_1) = true:=decide_eq_true c7
       clear c7
       by_cases c8 : x18_1 < (l0.length : Int)
       ·rw [if_pos c8] at H
        have c8b0 : decide (x18_1 < (l0.length : Int)) = true:=decide_eq_true c8
        clear c8
        have HC9:=aMk H
        clear H
        have p409 : 0 ≤ (x18_1 : Int):=of_decide_eq_true (by first|(with_reducible assumption) | assumption)
        have q409 : x18_1 < (l0.length : Int):=of_decide_eq_true (by first|(with_reducible assumption) | assumption)
        obtain ⟨ad409,e409,hx409_0,hx409_1⟩:=at_T55 HR0.out x18_1 p409 q409
        cases e409
        replace hx409_0:=(HB.out.cell (wLt w _ hx409_0)).trans hx409_0
        replace hx409_1:=(HB.out.cell (wLt w _ hx409_1)).trans hx409_1
        replace p409:=eq_true p409
        replace q409:=eq_true q409
        go_upto_region 9 with (first|((with_reducible refine gate_dst (N:=6) rfl ?_);(try (refine gate_guard (by rfl) ?_;dsimp only));refine box_event ?hg (N:=6) ?hd (cs:=#[.string (⟨#[]⟩ : ByteArray),.string (⟨#[]⟩ : ByteArray)]) (t:=55) ?hr ?_;(case hd => rfl);(case hg => rfl);(case hr => first|(go_simp;done)|(go_simp;rfl));intro gb410 hg w10 hbox hb;have n0_:=aMk (Kd.R_below (by (with_reducible repeat (first|apply Kd.R_alloc|apply Kd.R_drewN|apply Kd.R_drew));exact HO_4.out) hb);have n1_:=aMk (below_step (by repeat first|exact HB.out|apply bwA|apply bwN|apply bw1) hb);have n2_:=aMk (hbox);have n3_:=aMk ((by rw [hg];exact (below_size (by repeat first|exact HB.out|apply bwA|apply bwN|apply bw1)) : w.heap.size ≤ gb410));have n4_:=aMk ((by rw [hg];exact (below_size (by repeat first|exact HB.out|apply bwA|apply bwN|apply bw1)) : w.heap.size ≤ gb410));clear HO_4;clear HB;have HO_4:=n0_;have HB:=n1_;have BK410:=n2_;have GW410:=n3_;have GE410:=n4_;clear n0_ n1_ n2_ n3_ n4_;clear hb hbox hg;have hcz11_0 : w10.cell? ⟨gb410,0,none⟩ = some (.string (⟨#[]⟩ : ByteArray)):=(bCe BK410.out 0).trans rfl;have hcz11_1 : w10.cell? ⟨gb410,1,none⟩ = some (.string (⟨#[]⟩ : ByteArray)):=(bCe BK410.out 1).trans rfl;have hfz11_0:=bFr BK410.out 0;have hfz11_1:=bFr BK410.out 1))
        (try simp only [Act.put,List.setIfInBounds_toArray,List.set_cons_zero,List.set_cons_succ])
        go_cut [36] (fun v36 wc => ∃ (kq : Nat) (x36_8 : Bool),v36 = .bool x36_8 ∧ Aside0 (impl_FormText.j1 kq x4_1 l0 (l0.length : Int) x18_1 x36_8 ((rd_T55 l0 x18_1).f0) ((rd_T55 l0 x18_1).f1) = some (r1,r2)) ∧ Aside0 (kq ≤ k1) ∧ Aside0 (Kd.R Kd.string 9 wc w.heap.size (fun _ => True) u4 x4_1) ∧ Aside0 (wc.heap[gb410]? = some (.cells #[.string ((rd_T55 l0 x18_1).f0),.string ((rd_T55 l0 x18_1).f1)] 55 (0,0))) ∧ Aside0 (Below w.heap.size w wc))
        case first =>
         have H:=HC9.out
         clear HC9
         by_cases c12 : ((rd_T55 l0 x18_1).f0).toList = ([] : List UInt8)
         ·rw [if_pos c12] at H
          have c12b0 : (((rd_T55 l0 x18_1).f0).toList == ([] : List UInt8)) = true:=beq_iff_eq.mpr c12
          have c12b1 : (((rd_T55 l0 x18_1).f0).toList != ([] : List UInt8)) = false:=bne_eq_false_iff_eq.mpr c12
          clear c12
          (first|rw [c12b0]|(simp only [i64_w,i32_w];rw [c12b0]) | skip)
          have H':=aMk H
          clear H
          have hcz13_0 : w10.cell? ⟨gb410,0,none⟩ = some (.string (⟨#[]⟩ : ByteArray)):=(bCe BK410.out 0).trans rfl
          have hcz13_1 : w10.cell? ⟨gb410,1,none⟩ = some (.string (⟨#[]⟩ : ByteArray)):=(bCe BK410.out 1).trans rfl
          have hfz13_0:=bFr BK410.out 0
          have hfz13_1:=bFr BK410.out 1
          go_wp2
          go_meet
          case rel => exact ⟨_,(true),(by first | rfl|(simp;done)|(simp [*];done)|(simp [ne_nil_b];done)|(simp [ne_nil_b, *];done)),H',⟨by have:=HK1.out;first | omega|exact Nat.le_refl _⟩,⟨by (with_reducible repeat (first|apply Kd.R_alloc|apply Kd.R_drewN|apply Kd.R_drew));exact Kd.R_mono (Kd.R_far (p:=⟨gb410,1,none⟩) (Kd.R_far (p:=⟨gb410,0,none⟩) (Kd.R_types HO_4.out BK410.out (by decide)) (fun _ hk => hk.2) (.string ((rd_T55 l0 x18_1).f0))) (fun _ hk => hk.2) (.string ((rd_T55 l0 x18_1).f1))) (fun _ hk => trivial)⟩,⟨by (with_reducible repeat (first|refine bDn ?_ _|refine bDr ?_|refine bAl ?_ _));refine blk_put (cs:=#[.string ((rd_T55 l0 x18_1).f0),.string (⟨#[]⟩ : ByteArray)]) ?_ 1 _ rfl;(with_reducible repeat (first|refine bDn ?_ _|refine bDr ?_|refine bAl ?_ _));refine blk_put (cs:=#[.string (⟨#[]⟩ : ByteArray),.string (⟨#[]⟩ : ByteArray)]) ?_ 0 _ rfl;(with_reducible repeat (first|refine bDn ?_ _|refine bDr ?_|refine bAl ?_ _));exact BK410.out⟩,⟨by repeat (first|(with_reducible first|exact HB.out|apply bwA|apply bwN|apply bw1|refine below_set ?_ GE410.out)|exact HB.out)⟩⟩
         ·rw [if_neg c12] at H
          have c12b0 : (((rd_T55 l0 x18_1).f0).toList == ([] : List UInt8)) = false:=beq_eq_false_iff_ne.mpr c12
          have c12b1 : (((rd_T55 l0 x18_1).f0).toList != ([] : List UInt8)) = true:=bne_iff_ne.mpr c12
          (first|rw [c12b0]|(simp only [i64_w,i32_w];rw [c12b0]) | skip)
          by_cases c14 : (((rd_T55 l0 x18_1).f0).size : Int) > 40
          ·rw [if_pos c14] at H
           have c14b0 : decide (40 < (((rd_T55 l0 x18_1).f0).size : Int)) = true:=decide_eq_true c14
           have c14b1 : decide (40 < ((rd_T55 l0 x18_1).f0).size) = true:=decide_eq_true (by omega)
           clear c14
           have H':=aMk H
           clear H
           have hcz15_0 : w10.cell? ⟨gb410,0,none⟩ = some (.string (⟨#[]⟩ : ByteArray)):=(bCe BK410.out 0).trans rfl
           have hcz15_1 : w10.cell? ⟨gb410,1,none⟩ = some (.string (⟨#[]⟩ : ByteArray)):=(bCe BK410.out 1).trans rfl
           have hfz15_0:=bFr BK410.out 0
           have hfz15_1:=bFr BK410.out 1
           go_wp2
           go_meet
           case rel => exact ⟨_,(true),(by first | rfl|(simp;done)|(simp [*];done)|(simp [ne_nil_b];done)|(simp [ne_nil_b, *];done)),H',⟨by have:=HK1.out;first | omega|exact Nat.le_refl _⟩,⟨by (with_reducible repeat (first|apply Kd.R_alloc|apply Kd.R_drewN|apply Kd.R_drew));exact Kd.R_mono (Kd.R_far (p:=⟨gb410,1,none⟩) (Kd.R_far (p:=⟨gb410,0,none⟩) (Kd.R_types HO_4.out BK410.out (by decide)) (fun _ hk => hk.2) (.string ((rd_T55 l0 x18_1).f0))) (fun _ hk => hk.2) (.string ((rd_T55 l0 x18_1).f1))) (fun _ hk => trivial)⟩,⟨by (with_reducible repeat (first|refine bDn ?_ _|refine bDr ?_|refine bAl ?_ _));refine blk_put (cs:=#[.string ((rd_T55 l0 x18_1).f0),.string (⟨#[]⟩ : ByteArray)]) ?_ 1 _ rfl;(with_reducible repeat (first|refine bDn ?_ _|refine bDr ?_|refine bAl ?_ _));refine blk_put (cs:=#[.string (⟨#[]⟩ : ByteArray),.string (⟨#[]⟩ : ByteArray)]) ?_ 0 _ rfl;(with_reducible repeat (first|refine bDn ?_ _|refine bDr ?_|refine bAl ?_ _));exact BK410.out⟩,⟨by repeat (first|(with_reducible first|exact HB.out|apply bwA|apply bwN|apply bw1|refine below_set ?_ GE410.out)|exact HB.out)⟩⟩
          ·rw [if_neg c14] at H
           have c14b0 : decide (40 < (((rd_T55 l0 x18_1).f0).size : Int)) = false:=decide_eq_false c14
           have c14b1 : decide (40 < ((rd_T55 l0 x18_1).f0).size) = false:=decide_eq_false (by omega)
           clear c14
           have H':=aMk H
           clear H
           have hcz16_0 : w10.cell? ⟨gb410,0,none⟩ = some (.string (⟨#[]⟩ : ByteArray)):=(bCe BK410.out 0).trans rfl
           have hcz16_1 : w10.cell? ⟨gb410,1,none⟩ = some (.string (⟨#[]⟩ : ByteArray)):=(bCe BK410.out 1).trans rfl
           have hfz16_0:=bFr BK410.out 0
           have hfz16_1:=bFr BK410.out 1
           go_wp2
           go_meet
           case rel => exact ⟨_,(decide ((((rd_T55 l0 x18_1).f1).size : Int) > 40)),(by first | rfl|(simp;done)|(simp [*];done)|(simp [ne_nil_b];done)|(simp [ne_nil_b, *];done)),H',⟨by have:=HK1.out;first | omega|exact Nat.le_refl _⟩,⟨by (with_reducible repeat (first|apply Kd.R_alloc|apply Kd.R_drewN|apply Kd.R_drew));exact Kd.R_mono (Kd.R_far (p:=⟨gb410,1,none⟩) (Kd.R_far (p:=⟨gb410,0,none⟩) (Kd.R_types HO_4.out BK410.out (by decide)) (fun _ hk => hk.2) (.string ((rd_T55 l0 x18_1).f0))) (fun _ hk => hk.2) (.string ((rd_T55 l0 x18_1).f1))) (fun _ hk => trivial)⟩,⟨by (with_reducible repeat (first|refine bDn ?_ _|refine bDr ?_|refine bAl ?_ _));refine blk_put (cs:=#[.string ((rd_T55 l0 x18_1).f0),.string (⟨#[]⟩ : ByteArray)]) ?_ 1 _ rfl;(with_reducible repeat (first|refine bDn ?_ _|refine bDr ?_|refine bAl ?_ _));refine blk_put (cs:=#[.string (⟨#[]⟩ : ByteArray),.string (⟨#[]⟩ : ByteArray)]) ?_ 0 _ rfl;(with_reducible repeat (first|refine bDn ?_ _|refine bDr ?_|refine bAl ?_ _));exact BK410.out⟩,⟨by repeat (first|(with_reducible first|exact HB.out|apply bwA|apply bwN|apply bw1|refine below_set ?_ GE410.out)|exact HB.out)⟩⟩
        case rest =>
         clear HC9
         try clear c1
         try clear c2
         try clear c2b0
         try clear c2b1
         try clear p2
         try clear c3
         try clear c3b0
         try clear c3b1
         try clear p4
         try clear q4
         try clear hx4
         try clear c6
         try clear c6b0
         try clear c7
         try clear c7b0
         try clear c8
         try clear c8b0
         try clear c12
         try clear c12b0
         try clear c12b1
         try clear c14
         try clear c14b0
         try clear c14b1
         try clear hcz11_0
         try clear hcz11_1
         try clear hcz13_0
         try clear hcz13_1
         try clear hcz15_0
         try clear hcz15_1
         try clear hcz16_0
         try clear hcz16_1
         try clear hfz11_0
         try clear hfz11_1
         try clear hfz13_0
         try clear hfz13_1
         try clear hfz15_0
         try clear hfz15_1
         try clear hfz16_0
         try clear hfz16_1
         try clear hx409_0
         try clear hx409_1
         try clear p2
         try clear p409
         try clear q409
         obtain ⟨kq,x36_8,rfl,HA,HJ8,HO_4,BK410,HB⟩:=hcut
         cases kq with
         | zero => exact absurd HA.out (by simp [impl_FormText.j1])
         | succ kj8 =>
          have H:=HA.out
          clear HA
          simp only [impl_FormText.j1] at H
          by_cases c17 : x36_8 = true
          ·subst c17
           have H1 : (some ((⟨#[]⟩ : ByteArray),4)) = some (r1,r2):=by rw [if_pos rfl] at H;exact H
           clear H
           have H:=H1
           clear H1
           simp only [Option.some.injEq,Prod.mk.injEq] at H
           obtain ⟨rfl,rfl⟩:=H
           go_wp2
           go_ret2
           exact ⟨by first | rfl|(simp [errW_none,errW_some] <;> rfl)|(simp [*,errW_none,errW_some] <;> rfl),by repeat (first|(with_reducible first|exact HB.out|apply bwA|apply bwN|apply bw1|refine below_set ?_ GE410.out)|exact HB.out)⟩
          ·replace c17:=Bool.eq_false_iff.mpr c17
           subst c17
           have H1 : ((impl_escape.f kj8 ((rd_T55 l0 x18_1).f0)).bind fun t411 => (if t411.size + 1 ≤ 9223372036854775807 then ((impl_escape.f kj8 ((rd_T55 l0 x18_1).f1)).bind fun t412 => (if (t411 ++ (⟨#[61]⟩ : ByteArray)).size + t412.size ≤ 9223372036854775807 then (if x4_1.length < 8796093022208 then (impl_FormText.l0 kj8 (x4_1 ++ [(t411 ++ (⟨#[61]⟩ : ByteArray)) ++ t412]) l0 (l0.length : Int) (wrap64 (x18_1 + 1))) else (none)) else (none))) else (none))) = some (r1,r2):=by rw [if_neg (show ¬ (false = true) by decide)] at H;exact H
           clear H
           have H:=H1
           clear H1
           replace H:=Option.bind_eq_some_iff.mp H
           obtain ⟨t411,A180,H⟩:=H
           replace H : (if t411.size + 1 ≤ 9223372036854775807 then ((impl_escape.f kj8 ((rd_T55 l0 x18_1).f1)).bind fun t412 => (if (t411 ++ (⟨#[61]⟩ : ByteArray)).size + t412.size ≤ 9223372036854775807 then (if x4_1.length < 8796093022208 then (impl_FormText.l0 kj8 (x4_1 ++ [(t411 ++ (⟨#[61]⟩ : ByteArray)) ++ t412]) l0 (l0.length : Int) (wrap64 (x18_1 + 1))) else (none)) else (none))) else (none)) = some (r1,r2):=H
           have A18:=aMk A180
           clear A180
           by_cases c19 : t411.size + 1 ≤ 9223372036854775807
           ·rw [if_pos c19] at H
            have c19b0:=eq_true c19
            have c19b1 : decide (t411.size + 1 ≤ 9223372036854775807) = true:=decide_eq_true c19
            try have c19b2 : (9223372036854775807 < t411.size + 1) = False:=eq_false (Nat.not_lt.2 c19)
            replace H:=Option.bind_eq_some_iff.mp H
            obtain ⟨t412,A200,H⟩:=H
            replace H : (if (t411 ++ (⟨#[61]⟩ : ByteArray)).size + t412.size ≤ 9223372036854775807 then (if x4_1.length < 8796093022208 then (impl_FormText.l0 kj8 (x4_1 ++ [(t411 ++ (⟨#[61]⟩ : ByteArray)) ++ t412]) l0 (l0.length : Int) (wrap64 (x18_1 + 1))) else (none)) else (none)) = some (r1,r2):=H
            have A20:=aMk A200
            clear A200
            by_cases c21 : (t411 ++ (⟨#[61]⟩ : ByteArray)).size + t412.size ≤ 9223372036854775807
            ·rw [if_pos c21] at H
             have c21b0:=eq_true c21
             have c21b1 : decide ((t411 ++ (⟨#[61]⟩ : ByteArray)).size + t412.size ≤ 9223372036854775807) = true:=decide_eq_true c21
             try have c21b2 : (9223372036854775807 < (t411 ++ (⟨#[61]⟩ : ByteArray)).size + t412.size) = False:=eq_false (Nat.not_lt.2 c21)
             try have c21b3 : (9223372036854775807 < t411.size + 1 + t412.size) = False:=by rw [← show (t411 ++ (⟨#[61]⟩ : ByteArray)).size = t411.size + 1 from by (simp only [ByteArray.size_append];rfl)];exact c21b2
             by_cases c22 : x4_1.length < 8796093022208
             ·rw [if_pos c22] at H
              have LMc22:=aMk c22
              clear c22
              obtain ⟨y413,hy413⟩ : ∃ y_ : List ByteArray,y_ = (x4_1 ++ [(t411 ++ (⟨#[61]⟩ : ByteArray)) ++ t412]):=⟨_,rfl⟩
              replace H : (impl_FormText.l0 kj8 y413 l0 (l0.length : Int) (wrap64 (x18_1 + 1))) = some (r1,r2):=by first|(rw [hy413];with_reducible exact H)|(have H2_:=(Option.bind_some _ _).symm.trans H;rw [hy413];with_reducible exact H2_)|(have H2_:=(Option.bind_some _ _).symm.trans H;with_reducible exact H2_) | with_reducible exact H|(rw [hy413];exact H)|exact H
              have Ny413:=aMk hy413
              clear hy413
              have H':=aMk H
              clear H
              try go_wp2
              have n0_:=aMk (Kd.R_drew HO_4.out)
              have n1_:=aMk (bDr BK410.out)
              have n2_:=aMk (bw1 HB.out)
              clear HO_4
              clear BK410
              clear HB
              have HO_4:=n0_
              have BK410:=n1_
              have HB:=n2_
              clear n0_ n1_ n2_
              refine start_ (n:=12) (S:=fun w' => w'.cell? ⟨gb410,0,none⟩ = some (.string ((rd_T55 l0 x18_1).f0)) ∧ w'.cell? ⟨gb410,1,none⟩ = some (.string ((rd_T55 l0 x18_1).f1))) (ds:=[]) #[false,false,false,false,false,false,false,false,false,false,false,false] (by kernel_rfl) rfl rfl ⟨(bCe BK410.out 0).trans rfl,(bCe BK410.out 1).trans rfl⟩ (fun hHeld => ?_);refine with_tabW impl_FormText.tab11 impl_FormText.bits11 (fun HT_ HW_ => ?_)
              generalize wc.drew = w23 at HO_4 BK410 HB hHeld ⊢
              refine pure_ (i:=0) (N:=some 37) (v:=?_) (a':=?_) #[true,false,false,false,false,false,false,false,false,false,false,false] rfl rfl (any_of HT_.out (by kernel_rfl)) (fun _ _ _ h => h) (Or.inl ⟨by rfl,?_⟩) ?_ ?_
              rotate_left
              ·intro w'
               go_simp
               with_reducible rfl
              rotate_left
              ·simp only [Act.put,List.setIfInBounds_toArray,List.set_cons_zero,List.set_cons_succ,i64_w,i32_w]
               rfl
              refine pure_ (i:=1) (N:=some 38) (v:=?_) (a':=?_) #[true,true,false,false,false,false,false,false,false,false,false,false] rfl rfl (any_of HT_.out (by kernel_rfl)) (fun _ _ _ h => h) (Or.inl ⟨by rfl,?_⟩) ?_ ?_
              rotate_left
              ·intro w'
               go_simp
               with_reducible rfl
              rotate_left
              ·simp only [Act.put,List.setIfInBounds_toArray,List.set_cons_zero,List.set_cons_succ,i64_w,i32_w]
               rfl
              refine pure_ (i:=5) (N:=some 42) (v:=?_) (a':=?_) #[true,true,false,false,false,true,false,false,false,false,false,false] rfl rfl (any_of HT_.out (by kernel_rfl)) (fun _ _ _ h => h) (Or.inl ⟨by rfl,?_⟩) ?_ ?_
              rotate_left
              ·intro w'
               go_simp
               with_reducible rfl
              rotate_left
              ·simp only [Act.put,List.setIfInBounds_toArray,List.set_cons_zero,List.set_cons_succ,i64_w,i32_w]
               rfl
              refine take_ (i:=2) (N:=some 39) (v:=?_) (a':=?_) #[true,true,true,false,false,true,false,false,false,false,false,false] rfl rfl (take_ofW HT_.out HW_.out (by kernel_rfl)) (fun _ _ _ h => h) (Or.inl ⟨by rfl,?_⟩) hHeld ?_ ?_
              rotate_left
              ·rintro w' ⟨s0,s1⟩
               go_simp
               with_reducible rfl
              rotate_left
              ·simp only [Act.put,List.setIfInBounds_toArray,List.set_cons_zero,List.set_cons_succ,i64_w,i32_w]
               rfl
              refine take_ (i:=6) (N:=some 43) (v:=?_) (a':=?_) #[true,true,true,false,false,true,true,false,false,false,false,false] rfl rfl (take_ofW HT_.out HW_.out (by kernel_rfl)) (fun _ _ _ h => h) (Or.inl ⟨by rfl,?_⟩) hHeld ?_ ?_
              rotate_left
              ·rintro w' ⟨s0,s1⟩
               go_simp
               with_reducible rfl
              rotate_left
              ·simp only [Act.put,List.setIfInBounds_toArray,List.set_cons_zero,List.set_cons_succ,i64_w,i32_w]
               rfl
              refine one_ (i:=3) (N:=some 40) #[true,true,true,true,false,true,true,false,false,false,false,false] rfl rfl (one_of HT_.out (by kernel_rfl)) (by decide) (fun K hK => ?_)
              refine goes_ Tryd.func46 (by kernel_rfl) rfl #[.string ((rd_T55 l0 x18_1).f0)] (by rfl) rfl rfl (by (try simp only [List.map_toArray,List.map_cons,List.map_nil]);first | done | rfl|(simp only [List.length_drop,List.length_take];rfl)) ?_
              with_reducible refine (impl_escape.calls kj8 ((rd_T55 l0 x18_1).f0) t411 _ A18.out).mono ?_
              rintro e w24 ⟨rfl,hb⟩
              refine ⟨_,rfl,?_⟩
              have n0_:=aMk (Kd.R_below (by (with_reducible repeat (first|apply Kd.R_alloc|apply Kd.R_drewN|apply Kd.R_drew));exact HO_4.out) hb)
              have n1_:=aMk (blk_below (g:=gb410) (o:=.cells #[.string ((rd_T55 l0 x18_1).f0),.string ((rd_T55 l0 x18_1).f1)] 55 (0,0)) (by (with_reducible repeat (first|refine bDn ?_ _|refine bDr ?_|refine bAl ?_ _));exact BK410.out) hb)
              have n2_:=aMk (below_step (by repeat (first|(with_reducible first|exact HB.out|apply bwA|apply bwN|apply bw1|refine below_set ?_ GE410.out)|exact HB.out)) hb)
              clear HO_4
              clear BK410
              clear HB
              have HO_4:=n0_
              have BK410:=n1_
              have HB:=n2_
              clear n0_ n1_ n2_
              (try clear hb)
              (try clear hb2)
              (try clear hk)
              (try clear hi)
              refine hK.out _ _ ⟨(bCe BK410.out 0).trans rfl,(bCe BK410.out 1).trans rfl⟩ (fun hHeld => ?_)
              clear hK K
              refine norm_ (a':=?_) ?_ ?_
              rotate_left
              ·show Act.put _ (some 40) _ = _
               simp only [Act.put,List.setIfInBounds_toArray,List.set_cons_zero,List.set_cons_succ,i64_w,i32_w]
               rfl
              refine pure_ (i:=4) (N:=some 41) (v:=?_) (a':=?_) #[true,true,true,true,true,true,true,false,false,false,false,false] rfl rfl (any_of HT_.out (by kernel_rfl)) (fun _ _ _ h => h) (Or.inl ⟨by rfl,?_⟩) ?_ ?_
              rotate_left
              ·intro w'
               go_simp
               with_reducible rfl
              rotate_left
              ·simp only [Act.put,List.setIfInBounds_toArray,List.set_cons_zero,List.set_cons_succ,i64_w,i32_w]
               rfl
              refine one_ (i:=7) (N:=some 44) #[true,true,true,true,true,true,true,true,false,false,false,false] rfl rfl (one_of HT_.out (by kernel_rfl)) (by decide) (fun K hK => ?_)
              refine goes_ Tryd.func46 (by kernel_rfl) rfl #[.string ((rd_T55 l0 x18_1).f1)] (by rfl) rfl rfl (by (try simp only [List.map_toArray,List.map_cons,List.map_nil]);first | done | rfl|(simp only [List.length_drop,List.length_take];rfl)) ?_
              with_reducible refine (impl_escape.calls kj8 ((rd_T55 l0 x18_1).f1) t412 _ A20.out).mono ?_
              rintro e w25 ⟨rfl,hb⟩
              refine ⟨_,rfl,?_⟩
              have n0_:=aMk (Kd.R_below (by (with_reducible repeat (first|apply Kd.R_alloc|apply Kd.R_drewN|apply Kd.R_drew));exact HO_4.out) hb)
              have n1_:=aMk (blk_below (g:=gb410) (o:=.cells #[.string ((rd_T55 l0 x18_1).f0),.string ((rd_T55 l0 x18_1).f1)] 55 (0,0)) (by (with_reducible repeat (first|refine bDn ?_ _|refine bDr ?_|refine bAl ?_ _));exact BK410.out) hb)
              have n2_:=aMk (below_step (by repeat (first|(with_reducible first|exact HB.out|apply bwA|apply bwN|apply bw1|refine below_set ?_ GE410.out)|exact HB.out)) hb)
              clear HO_4
              clear BK410
              clear HB
              have HO_4:=n0_
              have BK410:=n1_
              have HB:=n2_
              clear n0_ n1_ n2_
              (try clear hb)
              (try clear hb2)
              (try clear hk)
              (try clear hi)
              refine hK.out _ _ ⟨(bCe BK410.out 0).trans rfl,(bCe BK410.out 1).trans rfl⟩ (fun hHeld => ?_)
              clear hK K
              refine norm_ (a':=?_) ?_ ?_
              rotate_left
              ·show Act.put _ (some 44) _ = _
               simp only [Act.put,List.setIfInBounds_toArray,List.set_cons_zero,List.set_cons_succ,i64_w,i32_w]
               rfl
              refine pure_ (i:=8) (N:=some 45) (v:=?_) (a':=?_) #[true,true,true,true,true,true,true,true,true,false,false,false] rfl rfl (any_of HT_.out (by kernel_rfl)) (fun _ _ _ h => h) (Or.inl ⟨by rfl,?_⟩) ?_ ?_
              rotate_left
              ·intro w'
               go_simp
               with_reducible rfl
              rotate_left
              ·simp only [Act.put,List.setIfInBounds_toArray,List.set_cons_zero,List.set_cons_succ,i64_w,i32_w]
               rfl
              refine one_ (i:=9) (N:=some 46) #[true,true,true,true,true,true,true,true,true,true,false,false] rfl rfl (one_of HT_.out (by kernel_rfl)) (by decide) (fun K hK => ?_)
              refine value_ (w1:=?_) (v:=?_) (by rfl) rfl ?_ ?_
              rotate_left 2
              ·go_simp
               constructor
               ·rfl
               ·rfl
              refine hK.out _ _ ⟨(bCe (bAl BK410.out _) 0).trans rfl,(bCe (bAl BK410.out _) 1).trans rfl⟩ (fun hHeld => ?_)
              clear hK K
              refine norm_ (a':=?_) ?_ ?_
              rotate_left
              ·show Act.put _ (some 46) _ = _
               simp only [Act.put,List.setIfInBounds_toArray,List.set_cons_zero,List.set_cons_succ,i64_w,i32_w]
               rfl
              refine one_ (i:=10) (N:=some 47) #[true,true,true,true,true,true,true,true,true,true,true,false] rfl rfl (one_of HT_.out (by kernel_rfl)) (by decide) (fun K hK => ?_)
              refine Kd.R_append_step Kd.string (w0:=w) w.heap.size (by rfl) (.tmp 37) (.tmp 46) 59 9 (.string ⟨#[]⟩) 16 rfl Tryd.underlying59 info9 rfl (by decide) (by omega) u4 x4_1 ((t411 ++ (⟨#[61]⟩ : ByteArray)) ++ t412) [.string ((t411 ++ (⟨#[61]⟩ : ByteArray)) ++ t412)] (fun _ => True) (fun _ => False) rfl rfl ?aP (fun _ hk => hk.elim) ?aF ?aO ?aB ?aS ?aL ?_
              (case aP => exact rfl)
              (case aB => exact (by repeat (first|(with_reducible first|exact HB.out|apply bwA|apply bwN|apply bw1|refine below_set ?_ GE410.out)|exact HB.out)))
              (case aF => exact (fun _ _ => trivial))
              (case aO => exact (by (with_reducible repeat (first|apply Kd.R_alloc|apply Kd.R_drewN|apply Kd.R_drew));exact HO_4.out))
              (case aS => exact (below_size (by repeat (first|(with_reducible first|exact HB.out|apply bwA|apply bwN|apply bw1|refine below_set ?_ GE410.out)|exact HB.out))))
              (case aL => have:=LMc22.out;omega)
              intro v414 w26 ho hb hg hat
              rw [← Ny413.out] at ho
              have n0_:=aMk (blk_grown (g:=gb410) (o:=.cells #[.string ((rd_T55 l0 x18_1).f0),.string ((rd_T55 l0 x18_1).f1)] 55 (0,0)) (by (with_reducible repeat (first|refine bDn ?_ _|refine bDr ?_|refine bAl ?_ _));exact BK410.out) hg (Kd.R_ne HO_4.out BK410.out (by decide)))
              have n1_:=aMk (hb)
              have n2_:=aMk (ho)
              clear BK410
              clear HB
              clear HO_4
              have BK410:=n0_
              have HB:=n1_
              have HO415:=n2_
              clear n0_ n1_ n2_
              clear ho hb hg hat
              refine hK.out _ _ ⟨(bCe BK410.out 0).trans rfl,(bCe BK410.out 1).trans rfl⟩ (fun hHeld => ?_)
              clear hK K
              refine norm_ (a':=?_) ?_ ?_
              rotate_left
              ·show Act.put _ (some 47) _ = _
               simp only [Act.put,List.setIfInBounds_toArray,List.set_cons_zero,List.set_cons_succ,i64_w,i32_w]
               rfl
              refine pure_ (i:=11) (N:=some 4) (v:=?_) (a':=?_) #[true,true,true,true,true,true,true,true,true,true,true,true] rfl rfl (any_of HT_.out (by kernel_rfl)) (fun _ _ _ h => h) (Or.inl ⟨by rfl,?_⟩) ?_ ?_
              rotate_left
              ·intro w'
               go_simp
               with_reducible rfl
              rotate_left
              ·simp only [Act.put,List.setIfInBounds_toArray,List.set_cons_zero,List.set_cons_succ,i64_w,i32_w]
               rfl
              refine done_ (done_of HT_.out (by kernel_rfl)) ?_
              try go_wp2
              go_roundg kj8
              case measure => have:=HK1.out;have:=HJ8.out;omega
              case rel => exact ⟨(y413),(wrap64 (x18_1 + 1)),(by first | rfl|(simp;done)|(simp [*];done)|(simp [ne_nil_b];done)|(simp [ne_nil_b, *];done)),H',⟨by have:=HK1.out;have:=HJ8.out;omega⟩,⟨by (with_reducible repeat (first|apply Kd.R_alloc|apply Kd.R_drewN|apply Kd.R_drew));exact HO415.out⟩,⟨by repeat (first|(with_reducible first|exact HB.out|apply bwA|apply bwN|apply bw1|refine below_set ?_ GE410.out)|exact HB.out)⟩⟩
             ·rw [if_neg c22] at H
              exact absurd H (by simp)
            ·rw [if_neg c21] at H
             exact absurd H (by simp)
           ·rw [if_neg c19] at H
            exact absurd H (by simp)
       ·rw [if_neg c8] at H
        exact absurd H (by simp)
      ·rw [if_neg c7] at H
       exact absurd H (by simp)
     ·rw [if_neg c6] at H
      have c6b0 : decide (x18_1 < (l0.length : Int)) = false:=decide_eq_false c6
      clear c6
      replace H:=Option.bind_eq_some_iff.mp H
      obtain ⟨t408,A270,H⟩:=H
      replace H : (some (t408,0)) = some (r1,r2):=H
      have A27:=aMk A270
      clear A270
      simp only [Option.some.injEq,Prod.mk.injEq] at H
      obtain ⟨rfl,rfl⟩:=H
      obtain ⟨Ao28,co28,eo28⟩:=Kd.R_slice HO_4.out
      subst eo28
      go_wp2_with (first|((with_reducible refine gate_callee (f:=47) rfl ?_);refine goesL_ (some 50) rfl rfl Tryd.func47 (by kernel_rfl) rfl #[.slice Ao28 x4_1.length co28,.string (⟨#[38]⟩ : ByteArray)] rfl (by (try simp only [List.map_toArray,List.map_cons,List.map_nil]);first | done | rfl|(simp only [List.length_drop,List.length_take];rfl)) ?_;(with_reducible refine (strings_Join.calls _ _ x4_1 (⟨#[38]⟩ : ByteArray) t408 _ ?side1 ?side2 A27.out).mono ?_);(case side1 => repeat (first|exact (Kd.R_reads' HO_4.out).2.2|(with_reducible refine Kd.C_alloc ?_ _)|(with_reducible refine Kd.C_drewN ?_ _)|(with_reducible refine Kd.C_drew ?_)));(case side2 => exact (Kd.R_reads' HO_4.out).2.1);rintro e w29 ⟨rfl,hb⟩;refine ⟨_,rfl,?_⟩;have n0_:=aMk (Kd.R_below (by (with_reducible repeat (first|apply Kd.R_alloc|apply Kd.R_drewN|apply Kd.R_drew));exact HO_4.out) hb);have n1_:=aMk (below_step (by repeat first|exact HB.out|apply bwA|apply bwN|apply bw1) hb);clear HO_4;clear HB;have HO_4:=n0_;have HB:=n1_;clear n0_ n1_;(try clear hb);(try clear hb2);(try clear hk);(try clear hi)))
      go_ret2
      exact ⟨by first | rfl|(simp [errW_none,errW_some] <;> rfl)|(simp [*,errW_none,errW_some] <;> rfl),by repeat (first|(with_reducible first|exact HB.out|apply bwA|apply bwN|apply bw1)|exact HB.out)⟩
end
section
/-! ### spec_l11Escape: function 48 -/
mutual
def spec_l11Escape.l0 : Nat → ByteArray → List Int → Int → Option (ByteArray)
 | 0,_,_,_ => none
 | k + 1,x0,x3,x4 => if x4 < (x0.size : Int) then (if 0 ≤ x4 then ((spec_l00Letter.f (bt x0 x4)).bind fun t419 => (if t419 = true then (spec_l11Escape.j1 k x0 x3 x4 (bt x0 x4) true) else ((spec_l00Digit.f (bt x0 x4)).bind fun t420 => (if t420 = true then (spec_l11Escape.j1 k x0 x3 x4 (bt x0 x4) true) else (if (bt x0 x4) = 45 then (spec_l11Escape.j1 k x0 x3 x4 (bt x0 x4) true) else (if (bt x0 x4) = 46 then (spec_l11Escape.j1 k x0 x3 x4 (bt x0 x4) true) else (spec_l11Escape.j1 k x0 x3 x4 (bt x0 x4) ((bt x0 x4) == 95)))))))) else (none)) else (some (strOfNums x3))
def spec_l11Escape.j1 : Nat → ByteArray → List Int → Int → Int → Bool → Option (ByteArray)
 | 0,_,_,_,_,_ => none
 | k + 1,x0,x3,x4,x5,x25 => if x25 = true then (if x3.length < 140737488355328 then (spec_l11Escape.l0 k x0 (x3 ++ [x5]) (wrap64 (x4 + 1))) else (none)) else (if x5 = 32 then (if x3.length < 140737488355328 then (spec_l11Escape.l0 k x0 (x3 ++ [43]) (wrap64 (x4 + 1))) else (none)) else (if 0 ≤ (x5 / 16) then (if (x5 / 16) < 16 then (if 0 ≤ (Go.bits .and .u8 x5 15) then (if (Go.bits .and .u8 x5 15) < 16 then ((some (([37,bt (⟨#[48,49,50,51,52,53,54,55,56,57,65,66,67,68,69,70]⟩ : ByteArray) (x5 / 16),bt (⟨#[48,49,50,51,52,53,54,55,56,57,65,66,67,68,69,70]⟩ : ByteArray) (Go.bits .and .u8 x5 15)] : List Int) : List Int)).bind fun y427 => (if x3.length + y427.length < 140737488355328 then (spec_l11Escape.l0 k x0 (x3 ++ y427) (wrap64 (x4 + 1))) else (none))) else (none)) else (none)) else (none)) else (none)))
end
def spec_l11Escape.f (k : Nat) (a0 : ByteArray) : Option (ByteArray):=spec_l11Escape.l0 k a0 (([] : List Int)) 0
theorem spec_l11Escape.mono_l : ∀ k,(∀ y0 y1 y2,LeO (spec_l11Escape.l0 k y0 y1 y2) (spec_l11Escape.l0 (k + 1) y0 y1 y2)) ∧ (∀ y0 y1 y2 y3 y4,LeO (spec_l11Escape.j1 k y0 y1 y2 y3 y4) (spec_l11Escape.j1 (k + 1) y0 y1 y2 y3 y4))
 | 0 => ⟨fun _ _ _ r h => by simp [spec_l11Escape.l0] at h,fun _ _ _ _ _ r h => by simp [spec_l11Escape.j1] at h⟩
 | k + 1 => by
  obtain ⟨ih0,ih1⟩:=spec_l11Escape.mono_l k
  refine ⟨?_,?_⟩
  ·intro y0 y1 y2
   unfold spec_l11Escape.l0
   repeat' first
   | (with_reducible exact ih0 _ _ _)
   | (with_reducible exact ih1 _ _ _ _ _)
   | (with_reducible exact LeO.refl _)
   | (with_reducible exact LeO.none _)
   | (with_reducible refine LeO.ite ?_ ?_)
   | (with_reducible refine LeO.bind ?_ (fun _ => ?_))
   | exact ih0 _ _ _
   | exact ih1 _ _ _ _ _
   | exact LeO.none _
   | refine LeO.ite ?_ ?_
   | refine LeO.bind ?_ (fun _ => ?_)
  ·intro y0 y1 y2 y3 y4
   unfold spec_l11Escape.j1
   repeat' first
   | (with_reducible exact ih0 _ _ _)
   | (with_reducible exact ih1 _ _ _ _ _)
   | (with_reducible exact LeO.refl _)
   | (with_reducible exact LeO.none _)
   | (with_reducible refine LeO.ite ?_ ?_)
   | (with_reducible refine LeO.bind ?_ (fun _ => ?_))
   | exact ih0 _ _ _
   | exact ih1 _ _ _ _ _
   | exact LeO.none _
   | refine LeO.ite ?_ ?_
   | refine LeO.bind ?_ (fun _ => ?_)
theorem spec_l11Escape.mono : ∀ a0 k,LeO (spec_l11Escape.f k a0) (spec_l11Escape.f (k + 1) a0):=by
 intro a0 k
 obtain ⟨ih0,ih1⟩:=spec_l11Escape.mono_l k
 unfold spec_l11Escape.f
 repeat' first
   | (with_reducible exact ih0 _ _ _)
   | (with_reducible exact ih1 _ _ _ _ _)
   | (with_reducible exact LeO.refl _)
   | (with_reducible exact LeO.none _)
   | (with_reducible refine LeO.ite ?_ ?_)
   | (with_reducible refine LeO.bind ?_ (fun _ => ?_))
   | exact ih0 _ _ _
   | exact ih1 _ _ _ _ _
   | exact LeO.none _
   | refine LeO.ite ?_ ?_
   | refine LeO.bind ?_ (fun _ => ?_)
def spec_l11Escape.T6 : Bool × List (List Nat × List Nat):=(true,[([],[]),([],[]),([1],[1]),([2],[2]),([],[]),([4],[4]),([5],[5]),([3,6],[3,6]),([0,7],[0,7]),([8,8,0,1,2,3,4,5,6,7,8],[0,8])])
def spec_l11Escape.B6 : List Nat:=[0,0,2,6,0,16,48,126,255,511]
theorem spec_l11Escape.tab6 : rtab .any (opsOf Tryd.f48 6) = spec_l11Escape.T6:=by kernel_rfl
theorem spec_l11Escape.bits6 : waitsOk spec_l11Escape.T6.2 spec_l11Escape.B6 = true:=by kernel_rfl
set_option maxHeartbeats 8000000 in
set_option maxRecDepth 100000 in
theorem spec_l11Escape.calls (k : Nat) (a0 : ByteArray) (r : ByteArray) (w : World) (h : spec_l11Escape.f k a0 = some r) :
  Calls Tryd.prog 48 #[.string a0] w fun e w' => e = .returned (.string r) ∧ Below w.heap.size w w':=by
 have HB:=aMk (Below.refl w.heap.size w)
 have H : (spec_l11Escape.l0 k a0 (([] : List Int)) 0) = some r:=h
 clear h
 obtain ⟨y416,hy416⟩ : ∃ y_ : List Int,y_ = (([] : List Int)):=⟨_,rfl⟩
 replace H : (spec_l11Escape.l0 k a0 y416 0) = some r:=by first|(rw [hy416];with_reducible exact H)|(have H2_:=(Option.bind_some _ _).symm.trans H;rw [hy416];with_reducible exact H2_)|(have H2_:=(Option.bind_some _ _).symm.trans H;with_reducible exact H2_) | with_reducible exact H|(rw [hy416];exact H)|exact H
 have Ny416:=aMk hy416
 clear hy416
 have H':=aMk H
 clear H
 go_enter Tryd.func48,Tryd.ntmps48
 go_wp2_with (first|((with_reducible refine gate_dst (N:=6) rfl ?_);refine Kd.R_lit (Kd.int .u8) _ 5 ?hg (N:=6) ?hd (xs:=([] : List Int)) (inner:=[]) (ok:=fun _ => True) (okp:=fun _ => True) ?hr ?hp (fun _ hk => hk) trivial (Below.refl _ _) (Nat.le_refl _) (by simp) ?_;(case hd => rfl);(case hg => rfl);(case hr => first|(go_simp;done)|(go_simp;rfl));(case hp => exact (Reps.none _ _));intro v417 w2 ho3 hb hg_ hnew_;clear hg_ hnew_;(first|rw [← Ny416.out] at ho3|(simp only [Int.reduceToNat] at ho3;rw [← Ny416.out] at ho3));have n0_:=aMk (Kd.R_lower ho3 (below_size (by repeat first|exact HB.out|apply bwA|apply bwN|apply bw1)));have n1_:=aMk (below_step (by repeat first|exact HB.out|apply bwA|apply bwN|apply bw1) hb);clear HB;have HO418:=n0_;have HB:=n1_;clear n0_ n1_;clear hb ho3))
 go_loopg [3,4] k (fun kq v3 v4 w' => ∃ (x3_1 : List Int) (x4_1 : Int),v4 = .int .i64 x4_1 ∧ Aside0 (spec_l11Escape.l0 kq a0 x3_1 x4_1 = some r) ∧ Aside0 (kq ≤ k) ∧ Aside0 (Kd.R (Kd.int .u8) 5 w' w.heap.size (fun _ => True) v3 x3_1) ∧ Aside0 (Below w.heap.size w w'))
 case atStart => exact ⟨(y416),(0),(by first | rfl|(simp;done)|(simp [*];done)|(simp [ne_nil_b];done)|(simp [ne_nil_b, *];done)),H',⟨Nat.le_refl _⟩,⟨by (with_reducible repeat (first|apply Kd.R_alloc|apply Kd.R_drewN|apply Kd.R_drew));exact HO418.out⟩,⟨by repeat (first|(with_reducible first|exact HB.out|apply bwA|apply bwN|apply bw1)|exact HB.out)⟩⟩
 case round =>
  clear H'
  try clear p2
  obtain ⟨x3_1,x4_1,rfl,HA,HK1,HO_3,HB⟩:=hrel
  cases gk with
  | zero => exact absurd HA.out (by simp [spec_l11Escape.l0])
  | succ k1 =>
   have H:=HA.out
   clear HA
   simp only [spec_l11Escape.l0] at H
   by_cases c4 : x4_1 < (a0.size : Int)
   ·rw [if_pos c4] at H
    have c4b0 : decide (x4_1 < (a0.size : Int)) = true:=decide_eq_true c4
    clear c4
    by_cases c5 : 0 ≤ x4_1
    ·rw [if_pos c5] at H
     have c5b0 : decide (0 ≤ x4_1) = true:=decide_eq_true c5
     clear c5
     have HC7:=aMk H
     clear H
     have p6 : 0 ≤ (x4_1 : Int):=of_decide_eq_true (by first|(with_reducible assumption) | assumption)
     have q6 : x4_1 < (a0.size : Int):=of_decide_eq_true (by first|(with_reducible assumption) | assumption)
     have hx6:=bt_at a0 x4_1
     replace p6:=eq_true p6
     replace q6:=eq_true q6
     go_upto_region 7 with (fail)
     go_cut [25] (fun v25 wc => ∃ (kq : Nat) (x25_6 : Bool),v25 = .bool x25_6 ∧ Aside0 (spec_l11Escape.j1 kq a0 x3_1 x4_1 (bt a0 x4_1) x25_6 = some r) ∧ Aside0 (kq ≤ k1) ∧ Aside0 (Kd.R (Kd.int .u8) 5 wc w.heap.size (fun _ => True) u3 x3_1) ∧ Aside0 (Below w.heap.size w wc))
     case first =>
      have H:=HC7.out
      clear HC7
      replace H:=Option.bind_eq_some_iff.mp H
      obtain ⟨t419,A80,H⟩:=H
      replace H : (if t419 = true then (spec_l11Escape.j1 k1 a0 x3_1 x4_1 (bt a0 x4_1) true) else ((spec_l00Digit.f (bt a0 x4_1)).bind fun t420 => (if t420 = true then (spec_l11Escape.j1 k1 a0 x3_1 x4_1 (bt a0 x4_1) true) else (if (bt a0 x4_1) = 45 then (spec_l11Escape.j1 k1 a0 x3_1 x4_1 (bt a0 x4_1) true) else (if (bt a0 x4_1) = 46 then (spec_l11Escape.j1 k1 a0 x3_1 x4_1 (bt a0 x4_1) true) else (spec_l11Escape.j1 k1 a0 x3_1 x4_1 (bt a0 x4_1) ((bt a0 x4_1) == 95))))))) = some r:=H
      have A8:=aMk A80
      clear A80
      by_cases c9 : t419 = true
      ·subst c9
       have H1 : (spec_l11Escape.j1 k1 a0 x3_1 x4_1 (bt a0 x4_1) true) = some r:=by rw [if_pos rfl] at H;exact H
       clear H
       have H:=H1
       clear H1
       have H':=aMk H
       clear H
       go_wp2_with (first|((with_reducible refine gate_callee (f:=54) rfl ?_);refine goesL_ (some 27) rfl rfl Tryd.func54 (by kernel_rfl) rfl #[.int .u8 (bt a0 x4_1)] rfl (by (try simp only [List.map_toArray,List.map_cons,List.map_nil]);first | done | rfl|(simp only [List.length_drop,List.length_take];rfl)) ?_;(with_reducible refine (spec_l00Letter.calls (bt a0 x4_1) true _ A8.out).mono ?_);rintro e w' ⟨rfl,⟨nd,rfl⟩⟩;refine ⟨_,rfl,?_⟩))
       go_meet
       case rel => exact ⟨_,(true),(by first | rfl|(simp;done)|(simp [*];done)|(simp [ne_nil_b];done)|(simp [ne_nil_b, *];done)),H',⟨by have:=HK1.out;first | omega|exact Nat.le_refl _⟩,⟨by (with_reducible repeat (first|apply Kd.R_alloc|apply Kd.R_drewN|apply Kd.R_drew));exact HO_3.out⟩,⟨by repeat (first|(with_reducible first|exact HB.out|apply bwA|apply bwN|apply bw1)|exact HB.out)⟩⟩
      ·replace c9:=Bool.eq_false_iff.mpr c9
       subst c9
       have H1 : ((spec_l00Digit.f (bt a0 x4_1)).bind fun t420 => (if t420 = true then (spec_l11Escape.j1 k1 a0 x3_1 x4_1 (bt a0 x4_1) true) else (if (bt a0 x4_1) = 45 then (spec_l11Escape.j1 k1 a0 x3_1 x4_1 (bt a0 x4_1) true) else (if (bt a0 x4_1) = 46 then (spec_l11Escape.j1 k1 a0 x3_1 x4_1 (bt a0 x4_1) true) else (spec_l11Escape.j1 k1 a0 x3_1 x4_1 (bt a0 x4_1) ((bt a0 x4_1) == 95)))))) = some r:=by rw [if_neg (show ¬ (false = true) by decide)] at H;exact H
       clear H
       have H:=H1
       clear H1
       replace H:=Option.bind_eq_some_iff.mp H
       obtain ⟨t420,A100,H⟩:=H
       replace H : (if t420 = true then (spec_l11Escape.j1 k1 a0 x3_1 x4_1 (bt a0 x4_1) true) else (if (bt a0 x4_1) = 45 then (spec_l11Escape.j1 k1 a0 x3_1 x4_1 (bt a0 x4_1) true) else (if (bt a0 x4_1) = 46 then (spec_l11Escape.j1 k1 a0 x3_1 x4_1 (bt a0 x4_1) true) else (spec_l11Escape.j1 k1 a0 x3_1 x4_1 (bt a0 x4_1) ((bt a0 x4_1) == 95))))) = some r:=H
       have A10:=aMk A100
       clear A100
       by_cases c11 : t420 = true
       ·subst c11
        have H1 : (spec_l11Escape.j1 k1 a0 x3_1 x4_1 (bt a0 x4_1) true) = some r:=by rw [if_pos rfl] at H;exact H
        clear H
        have H:=H1
        clear H1
        have H':=aMk H
        clear H
        go_wp2_with (first|((with_reducible refine gate_callee (f:=54) rfl ?_);refine goesL_ (some 27) rfl rfl Tryd.func54 (by kernel_rfl) rfl #[.int .u8 (bt a0 x4_1)] rfl (by (try simp only [List.map_toArray,List.map_cons,List.map_nil]);first | done | rfl|(simp only [List.length_drop,List.length_take];rfl)) ?_;(with_reducible refine (spec_l00Letter.calls (bt a0 x4_1) false _ A8.out).mono ?_);rintro e w' ⟨rfl,⟨nd,rfl⟩⟩;refine ⟨_,rfl,?_⟩)|(go_at_call 55;(with_reducible refine (spec_l00Digit.calls (bt a0 x4_1) true _ A10.out).mono ?_);rintro e w' ⟨rfl,⟨nd,rfl⟩⟩))
        go_meet
        case rel => exact ⟨_,(true),(by first | rfl|(simp;done)|(simp [*];done)|(simp [ne_nil_b];done)|(simp [ne_nil_b, *];done)),H',⟨by have:=HK1.out;first | omega|exact Nat.le_refl _⟩,⟨by (with_reducible repeat (first|apply Kd.R_alloc|apply Kd.R_drewN|apply Kd.R_drew));exact HO_3.out⟩,⟨by repeat (first|(with_reducible first|exact HB.out|apply bwA|apply bwN|apply bw1)|exact HB.out)⟩⟩
       ·replace c11:=Bool.eq_false_iff.mpr c11
        subst c11
        have H1 : (if (bt a0 x4_1) = 45 then (spec_l11Escape.j1 k1 a0 x3_1 x4_1 (bt a0 x4_1) true) else (if (bt a0 x4_1) = 46 then (spec_l11Escape.j1 k1 a0 x3_1 x4_1 (bt a0 x4_1) true) else (spec_l11Escape.j1 k1 a0 x3_1 x4_1 (bt a0 x4_1) ((bt a0 x4_1) == 95)))) = some r:=by rw [if_neg (show ¬ (false = true) by decide)] at H;exact H
        clear H
        have H:=H1
        clear H1
        by_cases c12 : (bt a0 x4_1) = 45
        ·rw [if_pos c12] at H
         have c12b0 : ((bt a0 x4_1) == 45) = true:=beq_iff_eq.mpr c12
         have c12b1 : ((bt a0 x4_1) != 45) = false:=bne_eq_false_iff_eq.mpr c12
         clear c12
         (first|rw [c12b0]|(simp only [i64_w,i32_w];rw [c12b0]) | skip)
         have H':=aMk H
         clear H
         go_wp2_with (first|((with_reducible refine gate_callee (f:=54) rfl ?_);refine goesL_ (some 27) rfl rfl Tryd.func54 (by kernel_rfl) rfl #[.int .u8 (bt a0 x4_1)] rfl (by (try simp only [List.map_toArray,List.map_cons,List.map_nil]);first | done | rfl|(simp only [List.length_drop,List.length_take];rfl)) ?_;(with_reducible refine (spec_l00Letter.calls (bt a0 x4_1) false _ A8.out).mono ?_);rintro e w' ⟨rfl,⟨nd,rfl⟩⟩;refine ⟨_,rfl,?_⟩)|(go_at_call 55;(with_reducible refine (spec_l00Digit.calls (bt a0 x4_1) false _ A10.out).mono ?_);rintro e w' ⟨rfl,⟨nd,rfl⟩⟩))
         go_meet
         case rel => exact ⟨_,(true),(by first | rfl|(simp;done)|(simp [*];done)|(simp [ne_nil_b];done)|(simp [ne_nil_b, *];done)),H',⟨by have:=HK1.out;first | omega|exact Nat.le_refl _⟩,⟨by (with_reducible repeat (first|apply Kd.R_alloc|apply Kd.R_drewN|apply Kd.R_drew));exact HO_3.out⟩,⟨by repeat (first|(with_reducible first|exact HB.out|apply bwA|apply bwN|apply bw1)|exact HB.out)⟩⟩
        ·rw [if_neg c12] at H
         have c12b0 : ((bt a0 x4_1) == 45) = false:=beq_eq_false_iff_ne.mpr c12
         have c12b1 : ((bt a0 x4_1) != 45) = true:=bne_iff_ne.mpr c12
         (first|rw [c12b0]|(simp only [i64_w,i32_w];rw [c12b0]) | skip)
         by_cases c13 : (bt a0 x4_1) = 46
         ·rw [if_pos c13] at H
          have c13b0 : ((bt a0 x4_1) == 46) = true:=beq_iff_eq.mpr c13
          have c13b1 : ((bt a0 x4_1) != 46) = false:=bne_eq_false_iff_eq.mpr c13
          clear c13
          have H':=aMk H
          clear H
          go_wp2_with (first|((with_reducible refine gate_callee (f:=54) rfl ?_);refine goesL_ (some 27) rfl rfl Tryd.func54 (by kernel_rfl) rfl #[.int .u8 (bt a0 x4_1)] rfl (by (try simp only [List.map_toArray,List.map_cons,List.map_nil]);first | done | rfl|(simp only [List.length_drop,List.length_take];rfl)) ?_;(with_reducible refine (spec_l00Letter.calls (bt a0 x4_1) false _ A8.out).mono ?_);rintro e w' ⟨rfl,⟨nd,rfl⟩⟩;refine ⟨_,rfl,?_⟩)|(go_at_call 55;(with_reducible refine (spec_l00Digit.calls (bt a0 x4_1) false _ A10.out).mono ?_);rintro e w' ⟨rfl,⟨nd,rfl⟩⟩))
          go_meet
          case rel => exact ⟨_,(true),(by first | rfl|(simp;done)|(simp [*];done)|(simp [ne_nil_b];done)|(simp [ne_nil_b, *];done)),H',⟨by have:=HK1.out;first | omega|exact Nat.le_refl _⟩,⟨by (with_reducible repeat (first|apply Kd.R_alloc|apply Kd.R_drewN|apply Kd.R_drew));exact HO_3.out⟩,⟨by repeat (first|(with_reducible first|exact HB.out|apply bwA|apply bwN|apply bw1)|exact HB.out)⟩⟩
         ·rw [if_neg c13] at H
          have c13b0 : ((bt a0 x4_1) == 46) = false:=beq_eq_false_iff_ne.mpr c13
          have c13b1 : ((bt a0 x4_1) != 46) = true:=bne_iff_ne.mpr c13
          have H':=aMk H
          clear H
          go_wp2_with (first|((with_reducible refine gate_callee (f:=54) rfl ?_);refine goesL_ (some 27) rfl rfl Tryd.func54 (by kernel_rfl) rfl #[.int .u8 (bt a0 x4_1)] rfl (by (try simp only [List.map_toArray,List.map_cons,List.map_nil]);first | done | rfl|(simp only [List.length_drop,List.length_take];rfl)) ?_;(with_reducible refine (spec_l00Letter.calls (bt a0 x4_1) false _ A8.out).mono ?_);rintro e w' ⟨rfl,⟨nd,rfl⟩⟩;refine ⟨_,rfl,?_⟩)|(go_at_call 55;(with_reducible refine (spec_l00Digit.calls (bt a0 x4_1) false _ A10.out).mono ?_);rintro e w' ⟨rfl,⟨nd,rfl⟩⟩))
          go_meet
          case rel => exact ⟨_,(((bt a0 x4_1) == 95)),(by first | rfl|(simp;done)|(simp [*];done)|(simp [ne_nil_b];done)|(simp [ne_nil_b, *];done)),H',⟨by have:=HK1.out;first | omega|exact Nat.le_refl _⟩,⟨by (with_reducible repeat (first|apply Kd.R_alloc|apply Kd.R_drewN|apply Kd.R_drew));exact HO_3.out⟩,⟨by repeat (first|(with_reducible first|exact HB.out|apply bwA|apply bwN|apply bw1)|exact HB.out)⟩⟩
     case rest =>
      clear HC7
      try clear c1
      try clear p2
      try clear c4
      try clear c4b0
      try clear c5
      try clear c5b0
      try clear p6
      try clear q6
      try clear hx6
      try clear c9
      try clear c11
      try clear c12
      try clear c12b0
      try clear c12b1
      try clear c13
      try clear c13b0
      try clear c13b1
      try clear p2
      try clear p6
      try clear q6
      obtain ⟨kq,x25_6,rfl,HA,HJ6,HO_3,HB⟩:=hcut
      cases kq with
      | zero => exact absurd HA.out (by simp [spec_l11Escape.j1])
      | succ kj6 =>
       have H:=HA.out
       clear HA
       simp only [spec_l11Escape.j1] at H
       by_cases c14 : x25_6 = true
       ·subst c14
        have H1 : (if x3_1.length < 140737488355328 then (spec_l11Escape.l0 kj6 a0 (x3_1 ++ [(bt a0 x4_1)]) (wrap64 (x4_1 + 1))) else (none)) = some r:=by rw [if_pos rfl] at H;exact H
        clear H
        have H:=H1
        clear H1
        by_cases c15 : x3_1.length < 140737488355328
        ·rw [if_pos c15] at H
         have LMc15:=aMk c15
         clear c15
         obtain ⟨y421,hy421⟩ : ∃ y_ : List Int,y_ = (x3_1 ++ [(bt a0 x4_1)]):=⟨_,rfl⟩
         replace H : (spec_l11Escape.l0 kj6 a0 y421 (wrap64 (x4_1 + 1))) = some r:=by first|(rw [hy421];with_reducible exact H)|(have H2_:=(Option.bind_some _ _).symm.trans H;rw [hy421];with_reducible exact H2_)|(have H2_:=(Option.bind_some _ _).symm.trans H;with_reducible exact H2_) | with_reducible exact H|(rw [hy421];exact H)|exact H
         have Ny421:=aMk hy421
         clear hy421
         have H':=aMk H
         clear H
         go_wp2_with (first|((with_reducible refine gate_builtin (b:=.append) (xs:=#[.tmp 44,.tmp 46]) rfl ?_);at_builtin;refine Kd.R_append (Kd.int .u8) (w0:=w) w.heap.size rfl (.tmp 44) (.tmp 46) 38 5 (.int .u8 0) 1 rfl Tryd.underlying38 info5 rfl (by decide) (by omega) u3 x3_1 (bt a0 x4_1) [.int .u8 (bt a0 x4_1)] (fun _ => True) (fun _ => False) rfl rfl ?aP (fun _ hk => hk.elim) ?aF ?aO ?aB ?aS ?aL ?_;(case aP => exact rfl);(case aB => exact (by repeat first|exact HB.out|apply bwA|apply bwN|apply bw1));(case aF => exact (fun _ _ => trivial));(case aO => exact (by (with_reducible repeat (first|apply Kd.R_alloc|apply Kd.R_drewN|apply Kd.R_drew));exact HO_3.out));(case aS => exact (below_size (by repeat first|exact HB.out|apply bwA|apply bwN|apply bw1)));(case aL => have:=LMc15.out;omega);intro v422 w16 ho hb hg hat;rw [← Ny421.out] at ho;have n0_:=aMk (hb);have n1_:=aMk (ho);clear HB;clear HO_3;have HB:=n0_;have HO423:=n1_;clear n0_ n1_;clear ho hb hg hat))
         go_roundg kj6
         case measure => have:=HK1.out;have:=HJ6.out;omega
         case rel => exact ⟨(y421),(wrap64 (x4_1 + 1)),(by first | rfl|(simp;done)|(simp [*];done)|(simp [ne_nil_b];done)|(simp [ne_nil_b, *];done)),H',⟨by have:=HK1.out;have:=HJ6.out;omega⟩,⟨by (with_reducible repeat (first|apply Kd.R_alloc|apply Kd.R_drewN|apply Kd.R_drew));exact HO423.out⟩,⟨by repeat (first|(with_reducible first|exact HB.out|apply bwA|apply bwN|apply bw1)|exact HB.out)⟩⟩
        ·rw [if_neg c15] at H
         exact absurd H (by simp)
       ·replace c14:=Bool.eq_false_iff.mpr c14
        subst c14
        have H1 : (if (bt a0 x4_1) = 32 then (if x3_1.length < 140737488355328 then (spec_l11Escape.l0 kj6 a0 (x3_1 ++ [43]) (wrap64 (x4_1 + 1))) else (none)) else (if 0 ≤ ((bt a0 x4_1) / 16) then (if ((bt a0 x4_1) / 16) < 16 then (if 0 ≤ (Go.bits .and .u8 (bt a0 x4_1) 15) then (if (Go.bits .and .u8 (bt a0 x4_1) 15) < 16 then ((some (([37,bt (⟨#[48,49,50,51,52,53,54,55,56,57,65,66,67,68,69,70]⟩ : ByteArray) ((bt a0 x4_1) / 16),bt (⟨#[48,49,50,51,52,53,54,55,56,57,65,66,67,68,69,70]⟩ : ByteArray) (Go.bits .and .u8 (bt a0 x4_1) 15)] : List Int) : List Int)).bind fun y427 => (if x3_1.length + y427.length < 140737488355328 then (spec_l11Escape.l0 kj6 a0 (x3_1 ++ y427) (wrap64 (x4_1 + 1))) else (none))) else (none)) else (none)) else (none)) else (none))) = some r:=by rw [if_neg (show ¬ (false = true) by decide)] at H;exact H
        clear H
        have H:=H1
        clear H1
        by_cases c17 : (bt a0 x4_1) = 32
        ·rw [if_pos c17] at H
         have c17b0 : ((bt a0 x4_1) == 32) = true:=beq_iff_eq.mpr c17
         have c17b1 : ((bt a0 x4_1) != 32) = false:=bne_eq_false_iff_eq.mpr c17
         clear c17
         by_cases c18 : x3_1.length < 140737488355328
         ·rw [if_pos c18] at H
          have LMc18:=aMk c18
          clear c18
          obtain ⟨y424,hy424⟩ : ∃ y_ : List Int,y_ = (x3_1 ++ [43]):=⟨_,rfl⟩
          replace H : (spec_l11Escape.l0 kj6 a0 y424 (wrap64 (x4_1 + 1))) = some r:=by first|(rw [hy424];with_reducible exact H)|(have H2_:=(Option.bind_some _ _).symm.trans H;rw [hy424];with_reducible exact H2_)|(have H2_:=(Option.bind_some _ _).symm.trans H;with_reducible exact H2_) | with_reducible exact H|(rw [hy424];exact H)|exact H
          have Ny424:=aMk hy424
          clear hy424
          have H':=aMk H
          clear H
          go_wp2_with (first|((with_reducible refine gate_builtin (b:=.append) (xs:=#[.tmp 51,.tmp 52]) rfl ?_);at_builtin;refine Kd.R_append (Kd.int .u8) (w0:=w) w.heap.size rfl (.tmp 51) (.tmp 52) 38 5 (.int .u8 0) 1 rfl Tryd.underlying38 info5 rfl (by decide) (by omega) u3 x3_1 43 [.int .u8 43] (fun _ => True) (fun _ => False) rfl rfl ?aP (fun _ hk => hk.elim) ?aF ?aO ?aB ?aS ?aL ?_;(case aP => exact rfl);(case aB => exact (by repeat first|exact HB.out|apply bwA|apply bwN|apply bw1));(case aF => exact (fun _ _ => trivial));(case aO => exact (by (with_reducible repeat (first|apply Kd.R_alloc|apply Kd.R_drewN|apply Kd.R_drew));exact HO_3.out));(case aS => exact (below_size (by repeat first|exact HB.out|apply bwA|apply bwN|apply bw1)));(case aL => have:=LMc18.out;omega);intro v425 w19 ho hb hg hat;rw [← Ny424.out] at ho;have n0_:=aMk (hb);have n1_:=aMk (ho);clear HB;clear HO_3;have HB:=n0_;have HO426:=n1_;clear n0_ n1_;clear ho hb hg hat))
          go_roundg kj6
          case measure => have:=HK1.out;have:=HJ6.out;omega
          case rel => exact ⟨(y424),(wrap64 (x4_1 + 1)),(by first | rfl|(simp;done)|(simp [*];done)|(simp [ne_nil_b];done)|(simp [ne_nil_b, *];done)),H',⟨by have:=HK1.out;have:=HJ6.out;omega⟩,⟨by (with_reducible repeat (first|apply Kd.R_alloc|apply Kd.R_drewN|apply Kd.R_drew));exact HO426.out⟩,⟨by repeat (first|(with_reducible first|exact HB.out|apply bwA|apply bwN|apply bw1)|exact HB.out)⟩⟩
         ·rw [if_neg c18] at H
          exact absurd H (by simp)
        ·rw [if_neg c17] at H
         have c17b0 : ((bt a0 x4_1) == 32) = false:=beq_eq_false_iff_ne.mpr c17
         have c17b1 : ((bt a0 x4_1) != 32) = true:=bne_iff_ne.mpr c17
         obtain ⟨ji20,hji20⟩ : ∃ j_ : Int,((bt a0 x4_1) / 16) = j_:=⟨_,rfl⟩
         replace H : (if 0 ≤ (ji20) then (if (ji20) < 16 then (if 0 ≤ (Go.bits .and .u8 (bt a0 x4_1) 15) then (if (Go.bits .and .u8 (bt a0 x4_1) 15) < 16 then ((some (([37,bt (⟨#[48,49,50,51,52,53,54,55,56,57,65,66,67,68,69,70]⟩ : ByteArray) (ji20),bt (⟨#[48,49,50,51,52,53,54,55,56,57,65,66,67,68,69,70]⟩ : ByteArray) (Go.bits .and .u8 (bt a0 x4_1) 15)] : List Int) : List Int)).bind fun y427 => (if x3_1.length + y427.length < 140737488355328 then (spec_l11Escape.l0 kj6 a0 (x3_1 ++ y427) (wrap64 (x4_1 + 1))) else (none))) else (none)) else (none)) else (none)) else (none)) = some r:=by first|(rw [hji20] at H;exact H)|(simp only [hji20] at H ⊢;exact H)
         by_cases c21 : 0 ≤ (ji20)
         ·rw [if_pos c21] at H
          have c21b0 : decide (0 ≤ (ji20)) = true:=decide_eq_true c21
          clear c21
          by_cases c22 : (ji20) < 16
          ·rw [if_pos c22] at H
           have c22b0 : decide ((ji20) < 16) = true:=decide_eq_true c22
           clear c22
           by_cases c24 : 0 ≤ (Go.bits .and .u8 (bt a0 x4_1) 15)
           ·rw [if_pos c24] at H
            have c24b0 : decide (0 ≤ (Go.bits .and .u8 (bt a0 x4_1) 15)) = true:=decide_eq_true c24
            clear c24
            by_cases c25 : (Go.bits .and .u8 (bt a0 x4_1) 15) < 16
            ·rw [if_pos c25] at H
             have c25b0 : decide ((Go.bits .and .u8 (bt a0 x4_1) 15) < 16) = true:=decide_eq_true c25
             clear c25
             obtain ⟨y427,hy427⟩ : ∃ y_ : List Int,y_ = (([37,bt (⟨#[48,49,50,51,52,53,54,55,56,57,65,66,67,68,69,70]⟩ : ByteArray) (ji20),bt (⟨#[48,49,50,51,52,53,54,55,56,57,65,66,67,68,69,70]⟩ : ByteArray) (Go.bits .and .u8 (bt a0 x4_1) 15)] : List Int)):=⟨_,rfl⟩
             replace H : (if x3_1.length + y427.length < 140737488355328 then (spec_l11Escape.l0 kj6 a0 (x3_1 ++ y427) (wrap64 (x4_1 + 1))) else (none)) = some r:=by first|(rw [hy427];with_reducible exact H)|(have H2_:=(Option.bind_some _ _).symm.trans H;rw [hy427];with_reducible exact H2_)|(have H2_:=(Option.bind_some _ _).symm.trans H;with_reducible exact H2_) | with_reducible exact H|(rw [hy427];exact H)|exact H
             have Ny427:=aMk hy427
             clear hy427
             by_cases c27 : x3_1.length + y427.length < 140737488355328
             ·rw [if_pos c27] at H
              have LMc27:=aMk c27
              clear c27
              obtain ⟨y430,hy430⟩ : ∃ y_ : List Int,y_ = (x3_1 ++ y427):=⟨_,rfl⟩
              replace H : (spec_l11Escape.l0 kj6 a0 y430 (wrap64 (x4_1 + 1))) = some r:=by first|(rw [hy430];with_reducible exact H)|(have H2_:=(Option.bind_some _ _).symm.trans H;rw [hy430];with_reducible exact H2_)|(have H2_:=(Option.bind_some _ _).symm.trans H;with_reducible exact H2_) | with_reducible exact H|(rw [hy430];exact H)|exact H
              have Ny430:=aMk hy430
              clear hy430
              have H':=aMk H
              clear H
              try go_wp2
              have n0_:=aMk (Kd.R_drew HO_3.out)
              have n1_:=aMk (bw1 HB.out)
              clear HO_3
              clear HB
              have HO_3:=n0_
              have HB:=n1_
              clear n0_ n1_
              have p23 : 0 ≤ ((ji20) : Int):=of_decide_eq_true (by first|(with_reducible assumption) | assumption)
              have q23 : (ji20) < (16 : Int):=of_decide_eq_true (by first|(with_reducible assumption) | assumption)
              have hx23:=bt_at (⟨#[48,49,50,51,52,53,54,55,56,57,65,66,67,68,69,70]⟩ : ByteArray) (ji20)
              replace p23:=eq_true p23
              replace q23:=eq_true q23
              have p26 : 0 ≤ ((Go.bits .and .u8 (bt a0 x4_1) 15) : Int):=of_decide_eq_true (by first|(with_reducible assumption) | assumption)
              have q26 : (Go.bits .and .u8 (bt a0 x4_1) 15) < (16 : Int):=of_decide_eq_true (by first|(with_reducible assumption) | assumption)
              have hx26:=bt_at (⟨#[48,49,50,51,52,53,54,55,56,57,65,66,67,68,69,70]⟩ : ByteArray) (Go.bits .and .u8 (bt a0 x4_1) 15)
              replace p26:=eq_true p26
              replace q26:=eq_true q26
              refine start_ (n:=10) (S:=fun w' => True) (ds:=[]) #[false,false,false,false,false,false,false,false,false,false] (by kernel_rfl) rfl rfl trivial (fun hHeld => ?_);refine with_tabW spec_l11Escape.tab6 spec_l11Escape.bits6 (fun HT_ HW_ => ?_)
              generalize wc.drew = w28 at HO_3 HB hHeld ⊢
              refine pure_ (i:=0) (N:=some 16) (v:=?_) (a':=?_) #[true,false,false,false,false,false,false,false,false,false] rfl rfl (any_of HT_.out (by kernel_rfl)) (fun _ _ _ h => h) (Or.inl ⟨by rfl,?_⟩) ?_ ?_
              rotate_left
              ·intro w'
               go_simp
               with_reducible rfl
              rotate_left
              ·simp only [Act.put,List.setIfInBounds_toArray,List.set_cons_zero,List.set_cons_succ,i64_w,i32_w]
               rfl
              refine pure_ (i:=1) (N:=some 17) (v:=?_) (a':=?_) #[true,true,false,false,false,false,false,false,false,false] rfl rfl (any_of HT_.out (by kernel_rfl)) (fun _ _ _ h => h) (Or.inl ⟨by rfl,?_⟩) ?_ ?_
              rotate_left
              ·intro w'
               go_simp
               with_reducible rfl
              rotate_left
              ·simp only [Act.put,List.setIfInBounds_toArray,List.set_cons_zero,List.set_cons_succ,i64_w,i32_w]
               rfl
              refine pure_ (i:=2) (N:=some 18) (v:=?_) (a':=?_) #[true,true,true,false,false,false,false,false,false,false] rfl rfl (any_of HT_.out (by kernel_rfl)) (fun _ _ _ h => h) (Or.inl ⟨by rfl,?_⟩) ?_ ?_
              rotate_left
              ·intro w'
               go_simp
               with_reducible rfl
              rotate_left
              ·simp only [Act.put,List.setIfInBounds_toArray,List.set_cons_zero,List.set_cons_succ,i64_w,i32_w]
               rfl
              refine pure_ (i:=4) (N:=some 20) (v:=?_) (a':=?_) #[true,true,true,false,true,false,false,false,false,false] rfl rfl (any_of HT_.out (by kernel_rfl)) (fun _ _ _ h => h) (Or.inl ⟨by rfl,?_⟩) ?_ ?_
              rotate_left
              ·intro w'
               go_simp
               with_reducible rfl
              rotate_left
              ·simp only [Act.put,List.setIfInBounds_toArray,List.set_cons_zero,List.set_cons_succ,i64_w,i32_w]
               rfl
              refine pure_ (i:=5) (N:=some 21) (v:=?_) (a':=?_) #[true,true,true,false,true,true,false,false,false,false] rfl rfl (any_of HT_.out (by kernel_rfl)) (fun _ _ _ h => h) (Or.inl ⟨by rfl,?_⟩) ?_ ?_
              rotate_left
              ·intro w'
               go_simp
               with_reducible rfl
              rotate_left
              ·simp only [Act.put,List.setIfInBounds_toArray,List.set_cons_zero,List.set_cons_succ,i64_w,i32_w]
               rfl
              refine take_ (i:=3) (N:=some 19) (v:=?_) (a':=?_) #[true,true,true,true,true,true,false,false,false,false] rfl rfl (take_ofW HT_.out HW_.out (by kernel_rfl)) (fun _ _ _ h => h) (Or.inl ⟨by rfl,?_⟩) hHeld ?_ ?_
              rotate_left
              ·intro w' _
               go_simp
               with_reducible rfl
              rotate_left
              ·simp only [Act.put,List.setIfInBounds_toArray,List.set_cons_zero,List.set_cons_succ,i64_w,i32_w]
               rfl
              refine take_ (i:=6) (N:=some 22) (v:=?_) (a':=?_) #[true,true,true,true,true,true,true,false,false,false] rfl rfl (take_ofW HT_.out HW_.out (by kernel_rfl)) (fun _ _ _ h => h) (Or.inl ⟨by rfl,?_⟩) hHeld ?_ ?_
              rotate_left
              ·intro w' _
               go_simp
               with_reducible rfl
              rotate_left
              ·simp only [Act.put,List.setIfInBounds_toArray,List.set_cons_zero,List.set_cons_succ,i64_w,i32_w]
               rfl
              refine one_ (i:=7) (N:=some 23) #[true,true,true,true,true,true,true,true,false,false] rfl rfl (one_of HT_.out (by kernel_rfl)) (by decide) (fun K hK => ?_)
              refine Kd.R_lit_step (Kd.int .u8) _ 5 ?hg (N:=23) ?hd (xs:=([37,bt (⟨#[48,49,50,51,52,53,54,55,56,57,65,66,67,68,69,70]⟩ : ByteArray) (ji20),bt (⟨#[48,49,50,51,52,53,54,55,56,57,65,66,67,68,69,70]⟩ : ByteArray) (Go.bits .and .u8 (bt a0 x4_1) 15)] : List Int)) (inner:=[.int .u8 37,.int .u8 (bt (⟨#[48,49,50,51,52,53,54,55,56,57,65,66,67,68,69,70]⟩ : ByteArray) (ji20)),.int .u8 (bt (⟨#[48,49,50,51,52,53,54,55,56,57,65,66,67,68,69,70]⟩ : ByteArray) (Go.bits .and .u8 (bt a0 x4_1) 15))]) (ok:=fun _ => True) (okp:=fun _ => True) ?hr ?hp (fun _ hk => hk) trivial (Below.refl _ _) (Nat.le_refl _) (by simp) ?_;(case hd => rfl);(case hg => rfl);(case hr => first|(go_simp;done)|(go_simp;rfl));(case hp => exact (Reps.one (show Kd.M (Kd.int .u8) _ _ _ 37 [.int .u8 37] from rfl) (Reps.one (show Kd.M (Kd.int .u8) _ _ _ (bt (⟨#[48,49,50,51,52,53,54,55,56,57,65,66,67,68,69,70]⟩ : ByteArray) (ji20)) [.int .u8 (bt (⟨#[48,49,50,51,52,53,54,55,56,57,65,66,67,68,69,70]⟩ : ByteArray) (ji20))] from rfl) (Reps.one (show Kd.M (Kd.int .u8) _ _ _ (bt (⟨#[48,49,50,51,52,53,54,55,56,57,65,66,67,68,69,70]⟩ : ByteArray) (Go.bits .and .u8 (bt a0 x4_1) 15)) [.int .u8 (bt (⟨#[48,49,50,51,52,53,54,55,56,57,65,66,67,68,69,70]⟩ : ByteArray) (Go.bits .and .u8 (bt a0 x4_1) 15))] from rfl) (Reps.none _ _)))))
              intro v428 w29 ho30 hb hg_ hnew_
              clear hg_ hnew_
              (first|rw [← Ny427.out] at ho30|(simp only [Int.reduceToNat] at ho30;rw [← Ny427.out] at ho30))
              have n0_:=aMk (Kd.R_elder' (by (with_reducible repeat (first|apply Kd.R_alloc|apply Kd.R_drewN|apply Kd.R_drew));exact HO_3.out) (Kd.R_base ho30) hb)
              have n1_:=aMk (Kd.R_lower (Kd.R_new' ho30 (Kd.R_lt (by (with_reducible repeat (first|apply Kd.R_alloc|apply Kd.R_drewN|apply Kd.R_drew));exact HO_3.out))) (below_size (by repeat first|exact HB.out|apply bwA|apply bwN|apply bw1)))
              have n2_:=aMk (below_step (by repeat first|exact HB.out|apply bwA|apply bwN|apply bw1) hb)
              clear HO_3
              clear HB
              have HO_3:=n0_
              have HO429:=n1_
              have HB:=n2_
              clear n0_ n1_ n2_
              clear hb ho30
              obtain ⟨Ao32,co32,eo32⟩:=Kd.R_slice HO429.out
              (first|subst eo32|(injection eo32 with f1_ f2_ f3_;have f4_:=f1_.symm;have f5_:=f3_.symm;clear f1_ f2_ f3_;subst f4_;subst f5_))
              refine hK.out _ _ trivial (fun hHeld => ?_)
              clear hK K
              refine norm_ (a':=?_) ?_ ?_
              rotate_left
              ·show Act.put _ (some 23) _ = _
               simp only [Act.put,List.setIfInBounds_toArray,List.set_cons_zero,List.set_cons_succ,i64_w,i32_w]
               rfl
              refine one_ (i:=8) (N:=some 24) #[true,true,true,true,true,true,true,true,true,false] rfl rfl (one_of HT_.out (by kernel_rfl)) (by decide) (fun K hK => ?_)
              refine Kd.R_append_rows_step (Kd.int .u8) (w0:=w) w.heap.size (by rfl) (.tmp 16) (.tmp 23) 38 5 (.int .u8 0) 1 rfl Tryd.underlying38 info5 rfl (by decide) (by omega) u3 x3_1 y427 _ _ _ (fun k_ => some k_ ≠ (.slice Ao32 y427.length co32 : Value).ownBlock) (fun _ => False) rfl rfl ?aO ?aR (fun _ _ h => h) (fun _ h => h.elim) ?aF ?aB ?aS ?aL ?_
              (case aR => repeat (first|exact (Kd.R_reads' HO429.out).2.2|(with_reducible refine Kd.C_alloc ?_ _)|(with_reducible refine Kd.C_drewN ?_ _)|(with_reducible refine Kd.C_drew ?_)))
              (case aB => exact (by repeat first|exact HB.out|apply bwA|apply bwN|apply bw1))
              (case aF => exact (fun k_ hk => Kd.fresh' (Kd.R_lt (by (with_reducible repeat (first|apply Kd.R_alloc|apply Kd.R_drewN|apply Kd.R_drew));exact HO429.out)) k_ hk))
              (case aO => exact (by (with_reducible repeat (first|apply Kd.R_alloc|apply Kd.R_drewN|apply Kd.R_drew));exact Kd.R_mono HO_3.out (fun _ hk => hk.2)))
              (case aS => exact (below_size (by repeat first|exact HB.out|apply bwA|apply bwN|apply bw1)))
              (case aL => have:=LMc27.out;omega)
              intro v431 w31 ho hb hg hat
              rw [← Ny430.out] at ho
              have n0_:=aMk (Kd.R_after (ok:=(fun _ => True)) (by (with_reducible repeat (first|apply Kd.R_alloc|apply Kd.R_drewN|apply Kd.R_drew));exact HO429.out) hg hat)
              have n1_:=aMk (hb)
              have n2_:=aMk (ho)
              clear HO429
              clear HB
              clear HO_3
              have HO429:=n0_
              have HB:=n1_
              have HO432:=n2_
              clear n0_ n1_ n2_
              clear ho hb hg hat
              refine hK.out _ _ trivial (fun hHeld => ?_)
              clear hK K
              refine norm_ (a':=?_) ?_ ?_
              rotate_left
              ·show Act.put _ (some 24) _ = _
               simp only [Act.put,List.setIfInBounds_toArray,List.set_cons_zero,List.set_cons_succ,i64_w,i32_w]
               rfl
              refine pure_ (i:=9) (N:=some 3) (v:=?_) (a':=?_) #[true,true,true,true,true,true,true,true,true,true] rfl rfl (any_of HT_.out (by kernel_rfl)) (fun _ _ _ h => h) (Or.inl ⟨by rfl,?_⟩) ?_ ?_
              rotate_left
              ·intro w'
               go_simp
               with_reducible rfl
              rotate_left
              ·simp only [Act.put,List.setIfInBounds_toArray,List.set_cons_zero,List.set_cons_succ,i64_w,i32_w]
               rfl
              refine done_ (done_of HT_.out (by kernel_rfl)) ?_
              try go_wp2
              go_roundg kj6
              case measure => have:=HK1.out;have:=HJ6.out;omega
              case rel => exact ⟨(y430),(wrap64 (x4_1 + 1)),(by first | rfl|(simp;done)|(simp [*];done)|(simp [ne_nil_b];done)|(simp [ne_nil_b, *];done)),H',⟨by have:=HK1.out;have:=HJ6.out;omega⟩,⟨by (with_reducible repeat (first|apply Kd.R_alloc|apply Kd.R_drewN|apply Kd.R_drew));exact Kd.R_mono HO432.out (fun _ hk => trivial)⟩,⟨by repeat (first|(with_reducible first|exact HB.out|apply bwA|apply bwN|apply bw1)|exact HB.out)⟩⟩
             ·rw [if_neg c27] at H
              exact absurd H (by simp)
            ·rw [if_neg c25] at H
             exact absurd H (by simp)
           ·rw [if_neg c24] at H
            exact absurd H (by simp)
          ·rw [if_neg c22] at H
           exact absurd H (by simp)
         ·rw [if_neg c21] at H
          exact absurd H (by simp)
    ·rw [if_neg c5] at H
     exact absurd H (by simp)
   ·rw [if_neg c4] at H
    have c4b0 : decide (x4_1 < (a0.size : Int)) = false:=decide_eq_false c4
    clear c4
    obtain rfl:=Option.some.inj H
    have hcv33:=own_string (P:=Tryd.prog) Tryd.underlying38 Tryd.underlying5 Tryd.underlying9 (Kd.own_of_R HO_3.out)
    go_wp2
    go_ret
    exact ⟨by first | rfl|(simp [errW_none,errW_some] <;> rfl)|(simp [*,errW_none,errW_some] <;> rfl),by repeat (first|(with_reducible first|exact HB.out|apply bwA|apply bwN|apply bw1)|exact HB.out)⟩
end
section
/-! ### spec_l00Join: function 49 -/
def spec_l00Join.l0 : Nat → List ByteArray → ByteArray → ByteArray → Int → Option (ByteArray)
 | 0,_,_,_,_ => none
 | k + 1,x0,x1,x5,x6 => if x6 < (x0.length : Int) then (if x6 > 0 then (if x5.size + x1.size ≤ 9223372036854775807 then (if 0 ≤ x6 then (if (x5 ++ x1).size + (rdOf ByteArray.empty x0 x6).size ≤ 9223372036854775807 then (spec_l00Join.l0 k x0 x1 ((x5 ++ x1) ++ (rdOf ByteArray.empty x0 x6)) (wrap64 (x6 + 1))) else (none)) else (none)) else (none)) else (if 0 ≤ x6 then (if x5.size + (rdOf ByteArray.empty x0 x6).size ≤ 9223372036854775807 then (spec_l00Join.l0 k x0 x1 (x5 ++ (rdOf ByteArray.empty x0 x6)) (wrap64 (x6 + 1))) else (none)) else (none))) else (some x5)
def spec_l00Join.f (k : Nat) (l0 : List ByteArray) (a1 : ByteArray) : Option (ByteArray):=spec_l00Join.l0 k l0 a1 (⟨#[]⟩ : ByteArray) 0
theorem spec_l00Join.mono_l : ∀ k,(∀ y0 y1 y2 y3,LeO (spec_l00Join.l0 k y0 y1 y2 y3) (spec_l00Join.l0 (k + 1) y0 y1 y2 y3))
 | 0 => fun _ _ _ _ r h => by simp [spec_l00Join.l0] at h
 | k + 1 => by
  have ih0:=spec_l00Join.mono_l k
  ·intro y0 y1 y2 y3
   unfold spec_l00Join.l0
   repeat' first
   | (with_reducible exact ih0 _ _ _ _)
   | (with_reducible exact LeO.refl _)
   | (with_reducible exact LeO.none _)
   | (with_reducible refine LeO.ite ?_ ?_)
   | (with_reducible refine LeO.bind ?_ (fun _ => ?_))
   | exact ih0 _ _ _ _
   | exact LeO.none _
   | refine LeO.ite ?_ ?_
   | refine LeO.bind ?_ (fun _ => ?_)
theorem spec_l00Join.mono : ∀ a0 a1 k,LeO (spec_l00Join.f k a0 a1) (spec_l00Join.f (k + 1) a0 a1):=by
 intro a0 a1 k
 have ih0:=spec_l00Join.mono_l k
 unfold spec_l00Join.f
 repeat' first
   | (with_reducible exact ih0 _ _ _ _)
   | (with_reducible exact LeO.refl _)
   | (with_reducible exact LeO.none _)
   | (with_reducible refine LeO.ite ?_ ?_)
   | (with_reducible refine LeO.bind ?_ (fun _ => ?_))
   | exact ih0 _ _ _ _
   | exact LeO.none _
   | refine LeO.ite ?_ ?_
   | refine LeO.bind ?_ (fun _ => ?_)
set_option maxHeartbeats 8000000 in
set_option maxRecDepth 100000 in
theorem spec_l00Join.calls (k : Nat) (A0 : Option Addr) (c0 : Nat) (l0 : List ByteArray) (a1 : ByteArray) (r : ByteArray) (w : World) (hr0 : Kd.C Kd.string w A0 l0.length l0) (hc0 : l0.length ≤ c0) (h : spec_l00Join.f k l0 a1 = some r) :
  Calls Tryd.prog 49 #[.slice A0 l0.length c0,.string a1] w fun e w' => e = .returned (.string r) ∧ Drawn0 w w':=by
 have HR0:=aMk hr0
 have HC0:=aMk hc0
 clear hr0 hc0
 have H : (spec_l00Join.l0 k l0 a1 (⟨#[]⟩ : ByteArray) 0) = some r:=h
 clear h
 have H':=aMk H
 clear H
 go_enter Tryd.func49,Tryd.ntmps49
 go_wp2
 go_loopg [5,6] k (fun kq v5 v6 w' => ∃ (x5_1 : ByteArray) (x6_1 : Int),v5 = .string x5_1 ∧ v6 = .int .i64 x6_1 ∧ Aside0 (spec_l00Join.l0 kq l0 a1 x5_1 x6_1 = some r) ∧ Aside0 (kq ≤ k) ∧ Drawn0 w w')
 case atStart => exact ⟨((⟨#[]⟩ : ByteArray)),(0),(by first | rfl|(simp;done)|(simp [*];done)|(simp [ne_nil_b];done)|(simp [ne_nil_b, *];done)),(by first | rfl|(simp;done)|(simp [*];done)|(simp [ne_nil_b];done)|(simp [ne_nil_b, *];done)),H',⟨Nat.le_refl _⟩,by repeat (first|exact Drawn0.refl _|apply Drawn0.step)⟩
 case round =>
  clear H'
  try clear p2
  obtain ⟨x5_1,x6_1,rfl,rfl,HA,HK1,⟨m1,rfl⟩⟩:=hrel
  cases gk with
  | zero => exact absurd HA.out (by simp [spec_l00Join.l0])
  | succ k1 =>
   have H:=HA.out
   clear HA
   simp only [spec_l00Join.l0] at H
   by_cases c3 : x6_1 < (l0.length : Int)
   ·rw [if_pos c3] at H
    have c3b0 : decide (x6_1 < (l0.length : Int)) = true:=decide_eq_true c3
    clear c3
    by_cases c4 : x6_1 > 0
    ·rw [if_pos c4] at H
     have c4b0 : decide (0 < x6_1) = true:=decide_eq_true c4
     clear c4
     by_cases c5 : x5_1.size + a1.size ≤ 9223372036854775807
     ·rw [if_pos c5] at H
      have c5b0:=eq_true c5
      have c5b1 : decide (x5_1.size + a1.size ≤ 9223372036854775807) = true:=decide_eq_true c5
      try have c5b2 : (9223372036854775807 < x5_1.size + a1.size) = False:=eq_false (Nat.not_lt.2 c5)
      by_cases c6 : 0 ≤ x6_1
      ·rw [if_pos c6] at H
       have c6b0 : decide (0 ≤ x6_1) = true:=decide_eq_true c6
       clear c6
       by_cases c7 : (x5_1 ++ a1).size + (rdOf ByteArray.empty l0 x6_1).size ≤ 9223372036854775807
       ·rw [if_pos c7] at H
        have c7b0:=eq_true c7
        have c7b1 : decide ((x5_1 ++ a1).size + (rdOf ByteArray.empty l0 x6_1).size ≤ 9223372036854775807) = true:=decide_eq_true c7
        try have c7b2 : (9223372036854775807 < (x5_1 ++ a1).size + (rdOf ByteArray.empty l0 x6_1).size) = False:=eq_false (Nat.not_lt.2 c7)
        try have c7b3 : (9223372036854775807 < x5_1.size + a1.size + (rdOf ByteArray.empty l0 x6_1).size) = False:=by rw [← show (x5_1 ++ a1).size = x5_1.size + a1.size from by (simp only [ByteArray.size_append];rfl)];exact c7b2
        have H':=aMk H
        clear H
        have p433 : 0 ≤ (x6_1 : Int):=of_decide_eq_true (by first|(with_reducible assumption) | assumption)
        have q433 : x6_1 < (l0.length : Int):=of_decide_eq_true (by first|(with_reducible assumption) | assumption)
        obtain ⟨ad433,e433,hx433_0⟩:=Kd.at_string HR0.out x6_1 p433 q433
        cases e433
        replace p433:=eq_true p433
        replace q433:=eq_true q433
        go_wp2
        go_roundg k1
        case measure => have:=HK1.out;omega
        case rel => exact ⟨((x5_1 ++ a1) ++ (rdOf ByteArray.empty l0 x6_1)),(wrap64 (x6_1 + 1)),(by first | rfl|(simp;done)|(simp [*];done)|(simp [ne_nil_b];done)|(simp [ne_nil_b, *];done)),(by first | rfl|(simp;done)|(simp [*];done)|(simp [ne_nil_b];done)|(simp [ne_nil_b, *];done)),H',⟨by have:=HK1.out;omega⟩,by repeat (first|exact Drawn0.refl _|apply Drawn0.step)⟩
       ·rw [if_neg c7] at H
        exact absurd H (by simp)
      ·rw [if_neg c6] at H
       exact absurd H (by simp)
     ·rw [if_neg c5] at H
      exact absurd H (by simp)
    ·rw [if_neg c4] at H
     have c4b0 : decide (0 < x6_1) = false:=decide_eq_false c4
     clear c4
     by_cases c8 : 0 ≤ x6_1
     ·rw [if_pos c8] at H
      have c8b0 : decide (0 ≤ x6_1) = true:=decide_eq_true c8
      clear c8
      by_cases c9 : x5_1.size + (rdOf ByteArray.empty l0 x6_1).size ≤ 9223372036854775807
      ·rw [if_pos c9] at H
       have c9b0:=eq_true c9
       have c9b1 : decide (x5_1.size + (rdOf ByteArray.empty l0 x6_1).size ≤ 9223372036854775807) = true:=decide_eq_true c9
       try have c9b2 : (9223372036854775807 < x5_1.size + (rdOf ByteArray.empty l0 x6_1).size) = False:=eq_false (Nat.not_lt.2 c9)
       have H':=aMk H
       clear H
       have p434 : 0 ≤ (x6_1 : Int):=of_decide_eq_true (by first|(with_reducible assumption) | assumption)
       have q434 : x6_1 < (l0.length : Int):=of_decide_eq_true (by first|(with_reducible assumption) | assumption)
       obtain ⟨ad434,e434,hx434_0⟩:=Kd.at_string HR0.out x6_1 p434 q434
       cases e434
       replace p434:=eq_true p434
       replace q434:=eq_true q434
       go_wp2
       go_roundg k1
       case measure => have:=HK1.out;omega
       case rel => exact ⟨(x5_1 ++ (rdOf ByteArray.empty l0 x6_1)),(wrap64 (x6_1 + 1)),(by first | rfl|(simp;done)|(simp [*];done)|(simp [ne_nil_b];done)|(simp [ne_nil_b, *];done)),(by first | rfl|(simp;done)|(simp [*];done)|(simp [ne_nil_b];done)|(simp [ne_nil_b, *];done)),H',⟨by have:=HK1.out;omega⟩,by repeat (first|exact Drawn0.refl _|apply Drawn0.step)⟩
      ·rw [if_neg c9] at H
       exact absurd H (by simp)
     ·rw [if_neg c8] at H
      exact absurd H (by simp)
   ·rw [if_neg c3] at H
    have c3b0 : decide (x6_1 < (l0.length : Int)) = false:=decide_eq_false c3
    clear c3
    obtain rfl:=Option.some.inj H
    go_wp2
    go_ret
    exact ⟨by first | rfl|(simp;done)|(simp [*];done)|(simp [ne_nil_b];done)|(simp [ne_nil_b, *];done),by repeat (first|exact Drawn0.refl _|apply Drawn0.step)⟩
end
end Go.Proofs.YticjbpkgdbacpaaDoor.X
