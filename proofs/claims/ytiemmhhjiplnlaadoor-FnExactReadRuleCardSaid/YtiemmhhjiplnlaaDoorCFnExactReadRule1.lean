/- Texts that the row of FnExactReadRule stands on: functions of the program and of the reference, each as a Lean function with the same answers, and the plain lemmas. Conditions: none beside those that each theorem names. -/
import Derived.Test.YtiemmhhjiplnlaaDoorCFnExactReadRule0
namespace Go.Proofs.YtiemmhhjiplnlaaDoor.X
open Go.RowKit Go.Proofs.YtiemmhhjiplnlaaDoorW.PrintWords Go.Proofs.YtiemmhhjiplnlaaDoorW.PrintLast Go.Proofs.YtiemmhhjiplnlaaDoorW.PrintMore
attribute [local go_sem] max2_int min2_int max_two min_two max_three min_three max_four min_four   -- for this text's walks alone
set_option linter.unusedVariables false
set_option linter.unusedSimpArgs false
open Go.Proofs.YtiemmhhjiplnlaaDoorW.PrintWords renaming blk_drewN -> bDn
open Go.Proofs.YtiemmhhjiplnlaaDoorW.PrintWords renaming blk_drew -> bDr
open Go.Proofs.YtiemmhhjiplnlaaDoorW.PrintWords renaming blk_alloc -> bAl
open Go.Proofs.YtiemmhhjiplnlaaDoorW.PrintWords renaming blk_frozen -> bFr
open Go.Proofs.YtiemmhhjiplnlaaDoorW.PrintWords renaming blk_cell -> bCe
open Go.Proofs.YtiemmhhjiplnlaaDoorW.PrintWords.Aside0 renaming mk -> aMk
open Go.World renaming block_lt_of_cell? -> wLt
open Go.Proofs.YtiemmhhjiplnlaaDoorW.PrintWords renaming pw_below_drewN -> bwN
open Go.Proofs.YtiemmhhjiplnlaaDoorW.PrintWords renaming below_drew1 -> bw1
open Go.Proofs.YtiemmhhjiplnlaaDoorW.PrintWords renaming below_alloc -> bwA
section
def errW : Option Int → Value
 | none => .nilIface
 | some c => .iface 99 (.int .i64 c)
theorem errW_none : errW none = .nilIface:=rfl
theorem errW_some (c : Int) : errW (some c) = .iface 99 (.int .i64 c):=rfl

theorem ne_nil_b (l : List UInt8) : (l != []) = !l.isEmpty:=by cases l <;> rfl

theorem info9 : (Tryd.prog.info? 9).map (fun i => (i.zero,i.size,i.bytes)) = some (some (.string ⟨#[]⟩),1,16):=by kernel_rfl
def rd_L3 (xs : List (List ByteArray)) (i : Int) : (List ByteArray):=xs.getD i.toNat ([] : List ByteArray)
def rd_L5 (xs : List (List Int)) (i : Int) : (List Int):=xs.getD i.toNat ([] : List Int)
/-! #### struct type 133 -/
structure S133 where
 f0 : Int
 f1 : Int
def z133 : S133:=⟨(0 : Int),(0 : Int)⟩
def k133 : Kd S133:=Kd.iso (Kd.pair (Kd.int .u8) (Kd.int .u8)) (fun x : S133 => (x.f0,x.f1))
def rd_T133 (xs : List S133) (i : Int) : S133:=xs.getD i.toNat z133
/-! #### struct type 128 -/
structure S128 where
 f0 : ByteArray
def z128 : S128:=⟨(⟨#[]⟩ : ByteArray)⟩
def k128 : Kd S128:=Kd.iso Kd.string (fun x : S128 => x.f0)
def rd_T128 (xs : List S128) (i : Int) : S128:=xs.getD i.toNat z128
/-! #### struct type 23 -/
structure S23 where
 f0 : Int
 f1 : Int
def z23 : S23:=⟨(0 : Int),(0 : Int)⟩
def k23 : Kd S23:=Kd.iso (Kd.pair (Kd.int .i64) (Kd.int .i64)) (fun x : S23 => (x.f0,x.f1))
def rd_T23 (xs : List S23) (i : Int) : S23:=xs.getD i.toNat z23
/-! #### struct type 25 -/
structure S25 where
 f0 : Int
 f1 : Int
def z25 : S25:=⟨(0 : Int),(0 : Int)⟩
def k25 : Kd S25:=Kd.iso (Kd.pair (Kd.int .i64) (Kd.int .i64)) (fun x : S25 => (x.f0,x.f1))
def rd_T25 (xs : List S25) (i : Int) : S25:=xs.getD i.toNat z25
/-! #### struct type 27 -/
structure S27 where
 f0 : Int
 f1 : S23
 f2 : S25
 f3 : Bool
def z27 : S27:=⟨(0 : Int),z23,z25,false⟩
def k27 : Kd S27:=Kd.iso (Kd.pair (Kd.int .i64) (Kd.pair k23 (Kd.pair k25 Kd.bool))) (fun x : S27 => (x.f0,x.f1,x.f2,x.f3))
def rd_T27 (xs : List S27) (i : Int) : S27:=xs.getD i.toNat z27
end
section
-- IMPORT Derived.Lib.LaidTab
-- IMPORT Derived.Lib.ItoaNum
def GLp (w : World) : Prop:=Lib.TabIs Tryd.prog w "internal/strconv.uint64pow10" .u64 Lib.pow10Tab
theorem GLp_below {w w' : World} (h : GLp w) (hb : Below w.heap.size w w') : GLp w':=by
 unfold GLp Lib.TabIs World.var? at h ⊢
 cases hg : Tryd.prog.globalNamed "internal/strconv.uint64pow10" with
 | none => rw [hg] at h;cases h
 | some g =>
  rw [hg] at h
  simp only [Option.bind_some] at h ⊢
  cases hh : w.heap[g]? with
  | none => rw [hh] at h;cases h
  | some o => rw [hb.block g (blk_lt hh)];exact h
end
section
/-! ### strconv_Itoa_22: function 22 -/
-- IMPORT Derived.Shelf.Strconv.Itoa3
-- IMPORT Derived.Lib.AppendIntMem
def itoaRen : Go.Shelf.Ren:=⟨fun x => match x with | 171 => 22 | 243 => 39 | 246 => 58 | 283 => 69 | 284 => 70 | 285 => 71 | 286 => 72 | 129 => 84 | 317 => 83 | 318 => 85 | 319 => 86 | 320 => 87 | 337 => 98 | 338 => 99 | n => n,fun x => match x with | 3 => 3 | 9 => 9 | 2 => 2 | 4 => 4 | 171 => 91 | 0 => 0 | 53 => 92 | 37 => 62 | 5 => 5 | 173 => 95 | 212 => 108 | 51 => 109 | 20 => 20 | 213 => 110 | 46 => 61 | 232 => 129 | 233 => 130 | n => n,fun x => match x with | 17 => 1 | 18 => 4 | 19 => 5 | n => n⟩
set_option maxRecDepth 100000 in
theorem itoaLays : Go.Proofs.LaysM.n171 Tryd.prog itoaRen:={ mixed:=by kernel_rfl,f129:=Tryd.func84.trans (congrArg some (by kernel_rfl)),f171:=Tryd.func22.trans (congrArg some (by kernel_rfl)),f243:=Tryd.func39.trans (congrArg some (by kernel_rfl)),f246:=Tryd.func58.trans (congrArg some (by kernel_rfl)),f283:=Tryd.func69.trans (congrArg some (by kernel_rfl)),f284:=Tryd.func70.trans (congrArg some (by kernel_rfl)),f285:=Tryd.func71.trans (congrArg some (by kernel_rfl)),f286:=Tryd.func72.trans (congrArg some (by kernel_rfl)),f317:=Tryd.func83.trans (congrArg some (by kernel_rfl)),f318:=Tryd.func85.trans (congrArg some (by kernel_rfl)),f319:=Tryd.func86.trans (congrArg some (by kernel_rfl)),f320:=Tryd.func87.trans (congrArg some (by kernel_rfl)),f337:=Tryd.func98.trans (congrArg some (by kernel_rfl)),f338:=Tryd.func99.trans (congrArg some (by kernel_rfl)),t0:=Tryd.underlying0,a0:=Tryd.isAgg0,z0:=Tryd.sizeOf0,v0:=Tryd.zeroValue0,t2:=Tryd.underlying2,a2:=Tryd.isAgg2,z2:=Tryd.sizeOf2,v2:=Tryd.zeroValue2,t3:=Tryd.underlying3,a3:=Tryd.isAgg3,z3:=Tryd.sizeOf3,v3:=Tryd.zeroValue3,t4:=Tryd.underlying4,a4:=Tryd.isAgg4,z4:=Tryd.sizeOf4,v4:=Tryd.zeroValue4,t5:=Tryd.underlying5,a5:=Tryd.isAgg5,z5:=Tryd.sizeOf5,v5:=Tryd.zeroValue5,t9:=Tryd.underlying9,a9:=Tryd.isAgg9,z9:=Tryd.sizeOf9,v9:=Tryd.zeroValue9,t20:=Tryd.underlying20,a20:=Tryd.isAgg20,z20:=Tryd.sizeOf20,v20:=Tryd.zeroValue20,t37:=Tryd.underlying62,a37:=Tryd.isAgg62,z37:=Tryd.sizeOf62,v37:=Tryd.zeroValue62,t46:=Tryd.underlying61,a46:=Tryd.isAgg61,z46:=Tryd.sizeOf61,v46:=Tryd.zeroValue61,t51:=Tryd.underlying109,a51:=Tryd.isAgg109,z51:=Tryd.sizeOf109,v51:=Tryd.zeroValue109,t53:=Tryd.underlying92,a53:=Tryd.isAgg92,z53:=Tryd.sizeOf92,v53:=Tryd.zeroValue92,t171:=Tryd.underlying91,a171:=Tryd.isAgg91,z171:=Tryd.sizeOf91,v171:=Tryd.zeroValue91,t173:=Tryd.underlying95,a173:=Tryd.isAgg95,z173:=Tryd.sizeOf95,v173:=Tryd.zeroValue95,t212:=Tryd.underlying108,a212:=Tryd.isAgg108,z212:=Tryd.sizeOf108,v212:=Tryd.zeroValue108,t213:=Tryd.underlying110,a213:=Tryd.isAgg110,z213:=Tryd.sizeOf110,t232:=Tryd.underlying129,a232:=Tryd.isAgg129,z232:=Tryd.sizeOf129,v232:=Tryd.zeroValue129,t233:=Tryd.underlying130,a233:=Tryd.isAgg130,z233:=Tryd.sizeOf130,v233:=Tryd.zeroValue130,g17:=by kernel_rfl,g18:=by kernel_rfl,g19:=by kernel_rfl,i0:=by kernel_rfl,i2:=by kernel_rfl,i3:=by kernel_rfl,i4:=by kernel_rfl,i5:=by kernel_rfl,i9:=by kernel_rfl,i20:=by kernel_rfl,i37:=by kernel_rfl,i46:=by kernel_rfl,i51:=by kernel_rfl,i53:=by kernel_rfl,i171:=by kernel_rfl,i173:=by kernel_rfl,i212:=by kernel_rfl,i232:=by kernel_rfl,i233:=by kernel_rfl,m17:=by kernel_rfl,m18:=by kernel_rfl,m19:=by kernel_rfl }
def strconv_Itoa_22.f (a0 : Int) : Option ByteArray:=if -9223372036854775808 ≤ a0 ∧ a0 ≤ 9223372036854775807 then some ⟨(Lib.itoa a0).toArray⟩ else none
theorem itoa_f (n : Int) (h0 : -9223372036854775808 ≤ n) (h1 : n ≤ 9223372036854775807) : strconv_Itoa_22.f n = some ⟨(Lib.itoa n).toArray⟩:=if_pos ⟨h0,h1⟩
theorem strconv_Itoa_22.calls (a0 : Int) (r : ByteArray) (w : World) (hGp : GLp w) (h : strconv_Itoa_22.f a0 = some r) :
  Calls Tryd.prog 22 #[.int .i64 a0] w fun e w' => e = .returned (.string r) ∧ Below w.heap.size w w':=by
 by_cases hb : -9223372036854775808 ≤ a0 ∧ a0 ≤ 9223372036854775807
 ·rw [strconv_Itoa_22.f,if_pos hb] at h
  obtain rfl:=Option.some.inj h
  refine (Any.strconv_Itoa itoaLays a0 hb.1 hb.2 w hGp).mono fun e w' hh => ?_
  obtain ⟨he,k,os,rfl⟩:=hh
  exact ⟨he,Lib.below_grow _ _ (Nat.le_refl _) _ _⟩
 ·rw [strconv_Itoa_22.f,if_neg hb] at h
  cases h
end
section
def isErrV (w : World) (g : Nat) : Prop:=∃ ev,w.cell? ⟨g,0,none⟩ = some ev ∧ (ev = .nilIface ∨ ∃ te pe,ev = .iface te pe)
def GLe (w : World) : Prop:=isErrV w 2 ∧ isErrV w 3
theorem isErrV_below {w w' : World} {g : Nat} (h : isErrV w g) (hb : Below w.heap.size w w') : isErrV w' g:=by
 obtain ⟨ev,h1,h2⟩:=h
 exact ⟨ev,(hb.cell (wLt w _ h1)).trans h1,h2⟩
theorem GLe_below {w w' : World} (h : GLe w) (hb : Below w.heap.size w w') : GLe w':=⟨isErrV_below h.1 hb,isErrV_below h.2 hb⟩
end
section
/-! ### impl_number: function 27 -/
-- IMPORT Derived.Shelf.Strconv.AtoiAll
-- IMPORT Derived.Shelf.Strings.Prefix
-- IMPORT Derived.Lib.ConvBytes
-- IMPORT Derived.Lib.AtoiErrMem
-- USES 22
def atoiRen : Go.Shelf.Ren:=⟨fun x => match x with | 172 => 49 | 244 => 64 | 245 => 65 | 247 => 77 | 279 => 78 | 280 => 79 | 281 => 80 | 282 => 81 | 287 => 95 | 316 => 96 | 171 => 22 | 205 => 97 | 321 => 103 | 322 => 104 | 243 => 39 | 246 => 58 | 283 => 69 | 284 => 70 | 285 => 71 | 286 => 72 | 129 => 84 | 317 => 83 | 318 => 85 | 319 => 86 | 320 => 87 | 337 => 98 | 338 => 99 | n => n,fun x => match x with | 9 => 9 | 3 => 3 | 75 => 69 | 76 => 70 | 4 => 4 | 5 => 5 | 167 => 99 | 37 => 62 | 0 => 0 | 85 => 100 | 2 => 2 | 168 => 102 | 53 => 92 | 175 => 116 | 46 => 61 | 210 => 120 | 127 => 82 | 145 => 128 | 143 => 126 | 21 => 21 | 171 => 91 | 173 => 95 | 212 => 108 | 51 => 109 | 20 => 20 | 213 => 110 | 232 => 129 | 233 => 130 | 80 => 72 | n => n,fun x => match x with | 15 => 2 | 16 => 3 | 17 => 1 | 18 => 4 | 19 => 5 | n => n⟩
set_option maxRecDepth 100000 in
theorem atoiLays : Go.Proofs.LaysC.n172 Tryd.prog atoiRen:={ mixed:=by kernel_rfl,f129:=Tryd.func84.trans (congrArg some (by kernel_rfl)),f171:=Tryd.func22.trans (congrArg some (by kernel_rfl)),f172:=Tryd.func49.trans (congrArg some (by kernel_rfl)),f205:=Tryd.func97.trans (congrArg some (by kernel_rfl)),f243:=Tryd.func39.trans (congrArg some (by kernel_rfl)),f244:=Tryd.func64.trans (congrArg some (by kernel_rfl)),f245:=Tryd.func65.trans (congrArg some (by kernel_rfl)),f246:=Tryd.func58.trans (congrArg some (by kernel_rfl)),f247:=Tryd.func77.trans (congrArg some (by kernel_rfl)),f279:=Tryd.func78.trans (congrArg some (by kernel_rfl)),f280:=Tryd.func79.trans (congrArg some (by kernel_rfl)),f281:=Tryd.func80.trans (congrArg some (by kernel_rfl)),f282:=Tryd.func81.trans (congrArg some (by kernel_rfl)),f283:=Tryd.func69.trans (congrArg some (by kernel_rfl)),f284:=Tryd.func70.trans (congrArg some (by kernel_rfl)),f285:=Tryd.func71.trans (congrArg some (by kernel_rfl)),f286:=Tryd.func72.trans (congrArg some (by kernel_rfl)),f287:=Tryd.func95.trans (congrArg some (by kernel_rfl)),f316:=Tryd.func96.trans (congrArg some (by kernel_rfl)),f317:=Tryd.func83.trans (congrArg some (by kernel_rfl)),f318:=Tryd.func85.trans (congrArg some (by kernel_rfl)),f319:=Tryd.func86.trans (congrArg some (by kernel_rfl)),f320:=Tryd.func87.trans (congrArg some (by kernel_rfl)),f321:=Tryd.func103.trans (congrArg some (by kernel_rfl)),f322:=Tryd.func104.trans (congrArg some (by kernel_rfl)),f337:=Tryd.func98.trans (congrArg some (by kernel_rfl)),f338:=Tryd.func99.trans (congrArg some (by kernel_rfl)),t0:=Tryd.underlying0,a0:=Tryd.isAgg0,z0:=Tryd.sizeOf0,v0:=Tryd.zeroValue0,t2:=Tryd.underlying2,a2:=Tryd.isAgg2,z2:=Tryd.sizeOf2,v2:=Tryd.zeroValue2,t3:=Tryd.underlying3,a3:=Tryd.isAgg3,z3:=Tryd.sizeOf3,v3:=Tryd.zeroValue3,t4:=Tryd.underlying4,a4:=Tryd.isAgg4,z4:=Tryd.sizeOf4,v4:=Tryd.zeroValue4,t5:=Tryd.underlying5,a5:=Tryd.isAgg5,z5:=Tryd.sizeOf5,v5:=Tryd.zeroValue5,t9:=Tryd.underlying9,a9:=Tryd.isAgg9,z9:=Tryd.sizeOf9,v9:=Tryd.zeroValue9,t20:=Tryd.underlying20,a20:=Tryd.isAgg20,z20:=Tryd.sizeOf20,v20:=Tryd.zeroValue20,t21:=Tryd.underlying21,a21:=Tryd.isAgg21,z21:=Tryd.sizeOf21,v21:=Tryd.zeroValue21,t37:=Tryd.underlying62,a37:=Tryd.isAgg62,z37:=Tryd.sizeOf62,v37:=Tryd.zeroValue62,t46:=Tryd.underlying61,a46:=Tryd.isAgg61,z46:=Tryd.sizeOf61,v46:=Tryd.zeroValue61,t51:=Tryd.underlying109,a51:=Tryd.isAgg109,z51:=Tryd.sizeOf109,v51:=Tryd.zeroValue109,t53:=Tryd.underlying92,a53:=Tryd.isAgg92,z53:=Tryd.sizeOf92,v53:=Tryd.zeroValue92,t75:=Tryd.underlying69,a75:=Tryd.isAgg69,z75:=Tryd.sizeOf69,v75:=Tryd.zeroValue69,t76:=Tryd.underlying70,a76:=Tryd.isAgg70,z76:=Tryd.sizeOf70,v76:=Tryd.zeroValue70,t85:=Tryd.underlying100,a85:=Tryd.isAgg100,z85:=Tryd.sizeOf100,v85:=Tryd.zeroValue100,t127:=Tryd.underlying82,a127:=Tryd.isAgg82,z127:=Tryd.sizeOf82,v127:=Tryd.zeroValue82,t143:=Tryd.underlying126,a143:=Tryd.isAgg126,z143:=Tryd.sizeOf126,v143:=Tryd.zeroValue126,t145:=Tryd.underlying128,a145:=Tryd.isAgg128,z145:=Tryd.sizeOf128,v145:=Tryd.zeroValue128,t167:=Tryd.underlying99,a167:=Tryd.isAgg99,z167:=Tryd.sizeOf99,v167:=Tryd.zeroValue99,t168:=Tryd.underlying102,a168:=Tryd.isAgg102,z168:=Tryd.sizeOf102,v168:=Tryd.zeroValue102,t171:=Tryd.underlying91,a171:=Tryd.isAgg91,z171:=Tryd.sizeOf91,v171:=Tryd.zeroValue91,t173:=Tryd.underlying95,a173:=Tryd.isAgg95,z173:=Tryd.sizeOf95,v173:=Tryd.zeroValue95,t175:=Tryd.underlying116,a175:=Tryd.isAgg116,z175:=Tryd.sizeOf116,v175:=Tryd.zeroValue116,t210:=Tryd.underlying120,a210:=Tryd.isAgg120,z210:=Tryd.sizeOf120,v210:=Tryd.zeroValue120,t212:=Tryd.underlying108,a212:=Tryd.isAgg108,z212:=Tryd.sizeOf108,v212:=Tryd.zeroValue108,t213:=Tryd.underlying110,a213:=Tryd.isAgg110,z213:=Tryd.sizeOf110,t232:=Tryd.underlying129,a232:=Tryd.isAgg129,z232:=Tryd.sizeOf129,v232:=Tryd.zeroValue129,t233:=Tryd.underlying130,a233:=Tryd.isAgg130,z233:=Tryd.sizeOf130,v233:=Tryd.zeroValue130,g15:=by kernel_rfl,g16:=by kernel_rfl,g17:=by kernel_rfl,g18:=by kernel_rfl,g19:=by kernel_rfl,t80:=Tryd.underlying72,a80:=Tryd.isAgg72,z80:=Tryd.sizeOf72,v80:=Tryd.zeroValue72,i0:=by kernel_rfl,i2:=by kernel_rfl,i3:=by kernel_rfl,i4:=by kernel_rfl,i5:=by kernel_rfl,i9:=by kernel_rfl,i20:=by kernel_rfl,i21:=by kernel_rfl,i37:=by kernel_rfl,i46:=by kernel_rfl,i51:=by kernel_rfl,i53:=by kernel_rfl,i75:=by kernel_rfl,i76:=by kernel_rfl,i80:=by kernel_rfl,i85:=by kernel_rfl,i127:=by kernel_rfl,i143:=by kernel_rfl,i145:=by kernel_rfl,i167:=by kernel_rfl,i168:=by kernel_rfl,i171:=by kernel_rfl,i173:=by kernel_rfl,i175:=by kernel_rfl,i210:=by kernel_rfl,i212:=by kernel_rfl,i232:=by kernel_rfl,i233:=by kernel_rfl,m15:=by kernel_rfl,m16:=by kernel_rfl,m17:=by kernel_rfl,m18:=by kernel_rfl,m19:=by kernel_rfl,c0:=by kernel_rfl,c2:=by kernel_rfl,c3:=by kernel_rfl,c4:=by kernel_rfl,c5:=by kernel_rfl,c9:=by kernel_rfl,c20:=by kernel_rfl,c21:=by kernel_rfl,c37:=by kernel_rfl,c46:=by kernel_rfl,c51:=by kernel_rfl,c53:=by kernel_rfl,c75:=by kernel_rfl,c76:=by kernel_rfl,c80:=by kernel_rfl,c85:=by kernel_rfl,c127:=by kernel_rfl,c143:=by kernel_rfl,c145:=by kernel_rfl,c167:=by kernel_rfl,c168:=by kernel_rfl,c171:=by kernel_rfl,c173:=by kernel_rfl,c175:=by kernel_rfl,c210:=by kernel_rfl,c212:=by kernel_rfl,c213:=by kernel_rfl,c232:=by kernel_rfl,c233:=by kernel_rfl }
def trimpRen : Go.Shelf.Ren:=⟨fun x => match x with | 101 => 50 | 208 => 66 | 206 => 82 | n => n,fun x => match x with | 9 => 9 | 4 => 4 | 3 => 3 | n => n,fun n => n⟩
set_option maxRecDepth 100000 in
theorem trimpLays : Go.Proofs.Lays.n101 Tryd.prog trimpRen:={ mixed:=by kernel_rfl,f101:=Tryd.func50.trans (congrArg some (by kernel_rfl)),f206:=Tryd.func82.trans (congrArg some (by kernel_rfl)),f208:=Tryd.func66.trans (congrArg some (by kernel_rfl)),t3:=Tryd.underlying3,a3:=Tryd.isAgg3,z3:=Tryd.sizeOf3,v3:=Tryd.zeroValue3,t4:=Tryd.underlying4,a4:=Tryd.isAgg4,z4:=Tryd.sizeOf4,v4:=Tryd.zeroValue4,t9:=Tryd.underlying9,a9:=Tryd.isAgg9,z9:=Tryd.sizeOf9,v9:=Tryd.zeroValue9 }
theorem atoi_below {w w' : World} {t0 : TypeId} (h : w' = w ∨ ∃ t,w' = Lib.bytesWorld w t0 t) : Below w.heap.size w w':=by
 rcases h with rfl | ⟨t,rfl⟩
 ·exact Below.refl _ _
 ·exact Lib.bytesWorld_below w t0 t
theorem err_cell {P : Program} {W : World} {fuel : Nat} {t : TypeId} {ms : Array (String × TypeId)} {cs : Array Value} {d : DataW Unit} {nm : String} {p : List MemPlace} {g : Nat} (hi : P.underlying t = some (.interface ms)) (hd : DataW.trod (fun _ => ()) P W 0 (fun _ => true) false fuel t cs.toList = some (.iface nm d,p)) (hc : W.cell? ⟨g,0,none⟩ = cs[0]?) : isErrV W g:=by
 cases fuel with
 | zero => simp [DataW.trod] at hd
 | succ fuel =>
  obtain ⟨l⟩:=cs
  rcases l with _ | ⟨x,_ | ⟨y,l⟩⟩
  ·simp [DataW.trod,hi] at hd
  ·cases x with
   | iface te pe => exact ⟨_,hc.trans rfl,Or.inr ⟨te,pe,rfl⟩⟩
   | nilIface => exact ⟨_,hc.trans rfl,Or.inl rfl⟩
   | _ => simp [DataW.trod,hi] at hd
  ·simp [DataW.trod,hi] at hd
def numOk (t : ByteArray) (v : Int) : Bool:=decide ((Lib.trimPrefix t.data.toList [45]).length ≤ 18) && (Lib.itoa v == t.data.toList)
def impl_number.f (a0 : ByteArray) : Option (Int × Bool):=if a0.size ≤ 281474976710656 then some (match Lib.atoiAll a0.data.toList with | .ok v => (v,numOk a0 v) | .range => (Lib.atoiSat a0.data.toList,false) | _ => (0,false)) else none
set_option maxHeartbeats 4000000 in
set_option maxRecDepth 100000 in
theorem impl_number.calls (a0 : ByteArray) (r1 : Int) (r2 : Bool) (w : World) (hGe : GLe w) (hGp : GLp w) (h : impl_number.f a0 = some (r1,r2)) :
  Calls Tryd.prog 27 #[.string a0] w fun e w' => e = .returned (.tuple #[.int .i64 r1,.bool r2]) ∧ Below w.heap.size w w':=by
 by_cases hb : a0.size ≤ 281474976710656
 ·rw [impl_number.f,if_pos hb] at h
  have h1:=Option.some.inj h
  clear h
  cases ha : Lib.atoiAll a0.data.toList with
  | ok v =>
   rw [ha] at h1
   simp only [Prod.mk.injEq] at h1
   obtain ⟨rfl,rfl⟩:=h1
   obtain ⟨hv0,hv1⟩:=Lib.atoiAll_bounds ha
   go_enter Tryd.func27,Tryd.ntmps27
   go_wp2_with (first
    | (go_at_call 49;refine (Any.strconv_Atoi_ok atoiLays a0 (by omega) v ha _).mono ?_;rintro e w1 ⟨rfl,hw1⟩;have hB1:=atoi_below hw1;clear hw1)
    | (go_at_call 50;refine (Any.strings_TrimPrefix trimpLays _ _ _).mono ?_;rintro e w2 ⟨rfl,rfl⟩)
    | (go_at_call 22;refine (strconv_Itoa_22.calls v _ _ (GLp_below hGp hB1) (itoa_f v hv0 hv1)).mono ?_;rintro e w3 ⟨rfl,hB2⟩))
   ·go_ret2
    refine ⟨?_,hB1.trans (hB2.mono hB1.size)⟩
    have hl : (Lib.trimPrefix a0.data.toList [45]).length ≤ 18:=by
     have h_:=‹(↑(Lib.trimPrefix a0.data.toList [45]).length : Int) ≤ 18›
     omega
    rw [numOk,decide_eq_true hl,Bool.true_and,Lib.toList_data]
    rfl
   ·go_ret2
    refine ⟨?_,hB1⟩
    have hl : ¬ (Lib.trimPrefix a0.data.toList [45]).length ≤ 18:=by
     have h_:=‹18 < (↑(Lib.trimPrefix a0.data.toList [45]).length : Int)›
     omega
    rw [numOk,decide_eq_false hl,Bool.false_and]
    rfl
  | range =>
   rw [ha] at h1
   simp only [Prod.mk.injEq] at h1
   obtain ⟨rfl,rfl⟩:=h1
   obtain ⟨ev,hv,hev⟩:=hGe.2
   have hsat:=Lib.atoiSat_bounds a0.data.toList
   obtain ⟨sv,hsv⟩ : ∃ sv,Lib.atoiSat a0.data.toList = sv:=⟨_,rfl⟩
   rw [hsv] at hsat ⊢
   go_enter Tryd.func27,Tryd.ntmps27
   go_wp2_with (first
    | (go_at_call 49;refine (Any.strconv_Atoi_range atoiLays a0 hb ha ev _ hv hev).mono ?_;rintro e w1 ⟨N,rfl,hN,_,hB1⟩;rw [hsv])
    | (go_at_call 50;refine (Any.strings_TrimPrefix trimpLays _ _ _).mono ?_;rintro e w2 ⟨rfl,rfl⟩))
   all_goals (go_ret2;exact ⟨rfl,hB1⟩)
  | _ =>
   rw [ha] at h1
   simp only [Prod.mk.injEq] at h1
   obtain ⟨rfl,rfl⟩:=h1
   obtain ⟨ev,hv,hev⟩:=hGe.1
   go_enter Tryd.func27,Tryd.ntmps27
   go_wp2_with (first
    | (go_at_call 49;refine (Any.strconv_Atoi_syntax atoiLays a0 hb ha ev _ hv hev).mono ?_;rintro e w1 ⟨N,rfl,hN,_,hB1⟩)
    | (go_at_call 50;refine (Any.strings_TrimPrefix trimpLays _ _ _).mono ?_;rintro e w2 ⟨rfl,rfl⟩))
   all_goals (go_ret2;exact ⟨rfl,hB1⟩)
 ·rw [impl_number.f,if_neg hb] at h
  cases h
end
section
/-! ### laws_eqNet: function 28 -/
def laws_eqNet.f (a0_0 : Int) (a0_1 : Int) (a1_0 : Int) (a1_1 : Int) : Option (Bool):=if a0_0 = a1_0 then (if a0_1 = a1_1 then (some true) else (some false)) else (some false)
set_option maxHeartbeats 8000000 in
set_option maxRecDepth 100000 in
theorem laws_eqNet.calls (a0_0 : Int) (a0_1 : Int) (a1_0 : Int) (a1_1 : Int) (r : Bool) (w : World) (h : laws_eqNet.f a0_0 a0_1 a1_0 a1_1 = some r) :
  Calls Tryd.prog 28 #[.agg #[.int .i64 a0_0,.int .i64 a0_1],.agg #[.int .i64 a1_0,.int .i64 a1_1]] w fun e w' => e = .returned (.bool r) ∧ Below w.heap.size w w':=by
 have hu30:=Tryd.underlying30
 have HB:=aMk (Below.refl w.heap.size w)
 have H : (if a0_0 = a1_0 then (if a0_1 = a1_1 then (some true) else (some false)) else (some false)) = some r:=h
 clear h
 by_cases c3 : a0_0 = a1_0
 ·rw [if_pos c3] at H
  have c3b0 : (a0_0 == a1_0) = true:=beq_iff_eq.mpr c3
  have c3b1 : (a0_0 != a1_0) = false:=bne_eq_false_iff_eq.mpr c3
  clear c3
  by_cases c4 : a0_1 = a1_1
  ·rw [if_pos c4] at H
   have c4b0 : (a0_1 == a1_1) = true:=beq_iff_eq.mpr c4
   have c4b1 : (a0_1 != a1_1) = false:=bne_eq_false_iff_eq.mpr c4
   clear c4
   obtain rfl:=Option.some.inj H
   go_enter Tryd.func28,Tryd.ntmps28
   go_wp2_with (first|((with_reducible refine gate_dst (N:=2) rfl ?_);refine box_event ?hg (N:=2) ?hd (cs:=#[.int .i64 a0_0,.int .i64 a0_1]) (t:=30) ?hr ?_;(case hd => rfl);(case hg => rfl);(case hr => first|(go_simp;done)|(go_simp;rfl));intro gb372 hg w5 hbox hb;have n0_:=aMk (below_step (by repeat first|exact HB.out|apply bwA|apply bwN|apply bw1) hb);have n1_:=aMk (hbox);have n2_:=aMk ((by rw [hg];exact (below_size (by repeat first|exact HB.out|apply bwA|apply bwN|apply bw1)) : w.heap.size ≤ gb372));have n3_:=aMk ((by rw [hg];exact (below_size (by repeat first|exact HB.out|apply bwA|apply bwN|apply bw1)) : w.heap.size ≤ gb372));clear HB;have HB:=n0_;have BK372:=n1_;have GW372:=n2_;have GE372:=n3_;clear n0_ n1_ n2_ n3_;clear hb hbox hg)|((with_reducible refine gate_dst (N:=3) rfl ?_);refine box_event ?hg (N:=3) ?hd (cs:=#[.int .i64 a1_0,.int .i64 a1_1]) (t:=30) ?hr ?_;(case hd => rfl);(case hg => rfl);(case hr => first|(go_simp;done)|(go_simp;rfl));intro gb373 hg w6 hbox hb;have n0_:=aMk (blk_below (g:=gb372) (o:=.cells #[.int .i64 a0_0,.int .i64 a0_1] 30 (0,0)) (by (with_reducible repeat (first|refine bDn ?_ _|refine bDr ?_|refine bAl ?_ _));exact BK372.out) hb);have n1_:=aMk (below_step (by repeat (first|(with_reducible first|exact HB.out|apply bwA|apply bwN|apply bw1|refine below_set ?_ GE372.out)|exact HB.out)) hb);have n2_:=aMk (hbox);have n3_:=aMk ((by rw [hg];exact (below_size (by repeat (first|(with_reducible first|exact HB.out|apply bwA|apply bwN|apply bw1|refine below_set ?_ GE372.out)|exact HB.out))) : w.heap.size ≤ gb373));have n4_:=aMk ((by rw [hg];exact (below_size (by repeat (first|(with_reducible first|exact HB.out|apply bwA|apply bwN|apply bw1|refine below_set ?_ GE372.out)|exact HB.out))) : w.heap.size ≤ gb373));have n5_:=aMk ((by rw [hg];exact Nat.ne_of_lt (blk_lt (g:=gb372) (o:=.cells #[.int .i64 a0_0,.int .i64 a0_1] 30 (0,0)) (by (with_reducible repeat (first|refine bDn ?_ _|refine bDr ?_|refine bAl ?_ _));exact BK372.out)) : gb372 ≠ gb373));have n6_:=aMk ((by rw [hg];exact Nat.ne_of_gt (blk_lt (g:=gb372) (o:=.cells #[.int .i64 a0_0,.int .i64 a0_1] 30 (0,0)) (by (with_reducible repeat (first|refine bDn ?_ _|refine bDr ?_|refine bAl ?_ _));exact BK372.out)) : gb373 ≠ gb372));clear BK372;clear HB;have BK372:=n0_;have HB:=n1_;have BK373:=n2_;have GW373:=n3_;have GE373:=n4_;have NB372_373:=n5_;have NB373_372:=n6_;clear n0_ n1_ n2_ n3_ n4_ n5_ n6_;clear hb hbox hg;have hnb7:=NB372_373.out;have hnc7:=NB373_372.out;have hcz8_0 : w6.cell? ⟨gb372,0,none⟩ = some (.int .i64 a0_0):=(bCe BK372.out 0).trans rfl;have hcz8_1 : w6.cell? ⟨gb372,1,none⟩ = some (.int .i64 a0_1):=(bCe BK372.out 1).trans rfl;have hfz8_0:=bFr BK372.out 0;have hfz8_1:=bFr BK372.out 1;have hcz9_0 : w6.cell? ⟨gb373,0,none⟩ = some (.int .i64 a1_0):=(bCe BK373.out 0).trans rfl;have hcz9_1 : w6.cell? ⟨gb373,1,none⟩ = some (.int .i64 a1_1):=(bCe BK373.out 1).trans rfl;have hfz9_0:=bFr BK373.out 0;have hfz9_1:=bFr BK373.out 1))
   go_ret
   exact ⟨by first | rfl|(simp [errW_none,errW_some] <;> rfl)|(simp [*,errW_none,errW_some] <;> rfl),by repeat (first|(with_reducible first|exact HB.out|apply bwA|apply bwN|apply bw1|refine below_set ?_ GE372.out|refine below_set ?_ GE373.out)|exact HB.out)⟩
  ·rw [if_neg c4] at H
   have c4b0 : (a0_1 == a1_1) = false:=beq_eq_false_iff_ne.mpr c4
   have c4b1 : (a0_1 != a1_1) = true:=bne_iff_ne.mpr c4
   obtain rfl:=Option.some.inj H
   go_enter Tryd.func28,Tryd.ntmps28
   go_wp2_with (first|((with_reducible refine gate_dst (N:=2) rfl ?_);refine box_event ?hg (N:=2) ?hd (cs:=#[.int .i64 a0_0,.int .i64 a0_1]) (t:=30) ?hr ?_;(case hd => rfl);(case hg => rfl);(case hr => first|(go_simp;done)|(go_simp;rfl));intro gb372 hg w10 hbox hb;have n0_:=aMk (below_step (by repeat first|exact HB.out|apply bwA|apply bwN|apply bw1) hb);have n1_:=aMk (hbox);have n2_:=aMk ((by rw [hg];exact (below_size (by repeat first|exact HB.out|apply bwA|apply bwN|apply bw1)) : w.heap.size ≤ gb372));have n3_:=aMk ((by rw [hg];exact (below_size (by repeat first|exact HB.out|apply bwA|apply bwN|apply bw1)) : w.heap.size ≤ gb372));clear HB;have HB:=n0_;have BK372:=n1_;have GW372:=n2_;have GE372:=n3_;clear n0_ n1_ n2_ n3_;clear hb hbox hg)|((with_reducible refine gate_dst (N:=3) rfl ?_);refine box_event ?hg (N:=3) ?hd (cs:=#[.int .i64 a1_0,.int .i64 a1_1]) (t:=30) ?hr ?_;(case hd => rfl);(case hg => rfl);(case hr => first|(go_simp;done)|(go_simp;rfl));intro gb373 hg w11 hbox hb;have n0_:=aMk (blk_below (g:=gb372) (o:=.cells #[.int .i64 a0_0,.int .i64 a0_1] 30 (0,0)) (by (with_reducible repeat (first|refine bDn ?_ _|refine bDr ?_|refine bAl ?_ _));exact BK372.out) hb);have n1_:=aMk (below_step (by repeat (first|(with_reducible first|exact HB.out|apply bwA|apply bwN|apply bw1|refine below_set ?_ GE372.out)|exact HB.out)) hb);have n2_:=aMk (hbox);have n3_:=aMk ((by rw [hg];exact (below_size (by repeat (first|(with_reducible first|exact HB.out|apply bwA|apply bwN|apply bw1|refine below_set ?_ GE372.out)|exact HB.out))) : w.heap.size ≤ gb373));have n4_:=aMk ((by rw [hg];exact (below_size (by repeat (first|(with_reducible first|exact HB.out|apply bwA|apply bwN|apply bw1|refine below_set ?_ GE372.out)|exact HB.out))) : w.heap.size ≤ gb373));have n5_:=aMk ((by rw [hg];exact Nat.ne_of_lt (blk_lt (g:=gb372) (o:=.cells #[.int .i64 a0_0,.int .i64 a0_1] 30 (0,0)) (by (with_reducible repeat (first|refine bDn ?_ _|refine bDr ?_|refine bAl ?_ _));exact BK372.out)) : gb372 ≠ gb373));have n6_:=aMk ((by rw [hg];exact Nat.ne_of_gt (blk_lt (g:=gb372) (o:=.cells #[.int .i64 a0_0,.int .i64 a0_1] 30 (0,0)) (by (with_reducible repeat (first|refine bDn ?_ _|refine bDr ?_|refine bAl ?_ _));exact BK372.out)) : gb373 ≠ gb372));clear BK372;clear HB;have BK372:=n0_;have HB:=n1_;have BK373:=n2_;have GW373:=n3_;have GE373:=n4_;have NB372_373:=n5_;have NB373_372:=n6_;clear n0_ n1_ n2_ n3_ n4_ n5_ n6_;clear hb hbox hg;have hnb12:=NB372_373.out;have hnc12:=NB373_372.out;have hcz13_0 : w11.cell? ⟨gb372,0,none⟩ = some (.int .i64 a0_0):=(bCe BK372.out 0).trans rfl;have hcz13_1 : w11.cell? ⟨gb372,1,none⟩ = some (.int .i64 a0_1):=(bCe BK372.out 1).trans rfl;have hfz13_0:=bFr BK372.out 0;have hfz13_1:=bFr BK372.out 1;have hcz14_0 : w11.cell? ⟨gb373,0,none⟩ = some (.int .i64 a1_0):=(bCe BK373.out 0).trans rfl;have hcz14_1 : w11.cell? ⟨gb373,1,none⟩ = some (.int .i64 a1_1):=(bCe BK373.out 1).trans rfl;have hfz14_0:=bFr BK373.out 0;have hfz14_1:=bFr BK373.out 1))
   go_ret
   exact ⟨by first | rfl|(simp [errW_none,errW_some] <;> rfl)|(simp [*,errW_none,errW_some] <;> rfl),by repeat (first|(with_reducible first|exact HB.out|apply bwA|apply bwN|apply bw1|refine below_set ?_ GE372.out|refine below_set ?_ GE373.out)|exact HB.out)⟩
 ·rw [if_neg c3] at H
  have c3b0 : (a0_0 == a1_0) = false:=beq_eq_false_iff_ne.mpr c3
  have c3b1 : (a0_0 != a1_0) = true:=bne_iff_ne.mpr c3
  obtain rfl:=Option.some.inj H
  go_enter Tryd.func28,Tryd.ntmps28
  go_wp2_with (first|((with_reducible refine gate_dst (N:=2) rfl ?_);refine box_event ?hg (N:=2) ?hd (cs:=#[.int .i64 a0_0,.int .i64 a0_1]) (t:=30) ?hr ?_;(case hd => rfl);(case hg => rfl);(case hr => first|(go_simp;done)|(go_simp;rfl));intro gb372 hg w15 hbox hb;have n0_:=aMk (below_step (by repeat first|exact HB.out|apply bwA|apply bwN|apply bw1) hb);have n1_:=aMk (hbox);have n2_:=aMk ((by rw [hg];exact (below_size (by repeat first|exact HB.out|apply bwA|apply bwN|apply bw1)) : w.heap.size ≤ gb372));have n3_:=aMk ((by rw [hg];exact (below_size (by repeat first|exact HB.out|apply bwA|apply bwN|apply bw1)) : w.heap.size ≤ gb372));clear HB;have HB:=n0_;have BK372:=n1_;have GW372:=n2_;have GE372:=n3_;clear n0_ n1_ n2_ n3_;clear hb hbox hg)|((with_reducible refine gate_dst (N:=3) rfl ?_);refine box_event ?hg (N:=3) ?hd (cs:=#[.int .i64 a1_0,.int .i64 a1_1]) (t:=30) ?hr ?_;(case hd => rfl);(case hg => rfl);(case hr => first|(go_simp;done)|(go_simp;rfl));intro gb373 hg w16 hbox hb;have n0_:=aMk (blk_below (g:=gb372) (o:=.cells #[.int .i64 a0_0,.int .i64 a0_1] 30 (0,0)) (by (with_reducible repeat (first|refine bDn ?_ _|refine bDr ?_|refine bAl ?_ _));exact BK372.out) hb);have n1_:=aMk (below_step (by repeat (first|(with_reducible first|exact HB.out|apply bwA|apply bwN|apply bw1|refine below_set ?_ GE372.out)|exact HB.out)) hb);have n2_:=aMk (hbox);have n3_:=aMk ((by rw [hg];exact (below_size (by repeat (first|(with_reducible first|exact HB.out|apply bwA|apply bwN|apply bw1|refine below_set ?_ GE372.out)|exact HB.out))) : w.heap.size ≤ gb373));have n4_:=aMk ((by rw [hg];exact (below_size (by repeat (first|(with_reducible first|exact HB.out|apply bwA|apply bwN|apply bw1|refine below_set ?_ GE372.out)|exact HB.out))) : w.heap.size ≤ gb373));have n5_:=aMk ((by rw [hg];exact Nat.ne_of_lt (blk_lt (g:=gb372) (o:=.cells #[.int .i64 a0_0,.int .i64 a0_1] 30 (0,0)) (by (with_reducible repeat (first|refine bDn ?_ _|refine bDr ?_|refine bAl ?_ _));exact BK372.out)) : gb372 ≠ gb373));have n6_:=aMk ((by rw [hg];exact Nat.ne_of_gt (blk_lt (g:=gb372) (o:=.cells #[.int .i64 a0_0,.int .i64 a0_1] 30 (0,0)) (by (with_reducible repeat (first|refine bDn ?_ _|refine bDr ?_|refine bAl ?_ _));exact BK372.out)) : gb373 ≠ gb372));clear BK372;clear HB;have BK372:=n0_;have HB:=n1_;have BK373:=n2_;have GW373:=n3_;have GE373:=n4_;have NB372_373:=n5_;have NB373_372:=n6_;clear n0_ n1_ n2_ n3_ n4_ n5_ n6_;clear hb hbox hg;have hnb17:=NB372_373.out;have hnc17:=NB373_372.out;have hcz18_0 : w16.cell? ⟨gb372,0,none⟩ = some (.int .i64 a0_0):=(bCe BK372.out 0).trans rfl;have hcz18_1 : w16.cell? ⟨gb372,1,none⟩ = some (.int .i64 a0_1):=(bCe BK372.out 1).trans rfl;have hfz18_0:=bFr BK372.out 0;have hfz18_1:=bFr BK372.out 1;have hcz19_0 : w16.cell? ⟨gb373,0,none⟩ = some (.int .i64 a1_0):=(bCe BK373.out 0).trans rfl;have hcz19_1 : w16.cell? ⟨gb373,1,none⟩ = some (.int .i64 a1_1):=(bCe BK373.out 1).trans rfl;have hfz19_0:=bFr BK373.out 0;have hfz19_1:=bFr BK373.out 1))
  go_ret
  exact ⟨by first | rfl|(simp [errW_none,errW_some] <;> rfl)|(simp [*,errW_none,errW_some] <;> rfl),by repeat (first|(with_reducible first|exact HB.out|apply bwA|apply bwN|apply bw1|refine below_set ?_ GE372.out|refine below_set ?_ GE373.out)|exact HB.out)⟩
end
section
/-! ### laws_eqRange: function 29 -/
def laws_eqRange.f (a0_0 : Int) (a0_1 : Int) (a1_0 : Int) (a1_1 : Int) : Option (Bool):=if a0_0 = a1_0 then (if a0_1 = a1_1 then (some true) else (some false)) else (some false)
set_option maxHeartbeats 8000000 in
set_option maxRecDepth 100000 in
theorem laws_eqRange.calls (a0_0 : Int) (a0_1 : Int) (a1_0 : Int) (a1_1 : Int) (r : Bool) (w : World) (h : laws_eqRange.f a0_0 a0_1 a1_0 a1_1 = some r) :
  Calls Tryd.prog 29 #[.agg #[.int .i64 a0_0,.int .i64 a0_1],.agg #[.int .i64 a1_0,.int .i64 a1_1]] w fun e w' => e = .returned (.bool r) ∧ Below w.heap.size w w':=by
 have hu31:=Tryd.underlying31
 have HB:=aMk (Below.refl w.heap.size w)
 have H : (if a0_0 = a1_0 then (if a0_1 = a1_1 then (some true) else (some false)) else (some false)) = some r:=h
 clear h
 by_cases c3 : a0_0 = a1_0
 ·rw [if_pos c3] at H
  have c3b0 : (a0_0 == a1_0) = true:=beq_iff_eq.mpr c3
  have c3b1 : (a0_0 != a1_0) = false:=bne_eq_false_iff_eq.mpr c3
  clear c3
  by_cases c4 : a0_1 = a1_1
  ·rw [if_pos c4] at H
   have c4b0 : (a0_1 == a1_1) = true:=beq_iff_eq.mpr c4
   have c4b1 : (a0_1 != a1_1) = false:=bne_eq_false_iff_eq.mpr c4
   clear c4
   obtain rfl:=Option.some.inj H
   go_enter Tryd.func29,Tryd.ntmps29
   go_wp2_with (first|((with_reducible refine gate_dst (N:=2) rfl ?_);refine box_event ?hg (N:=2) ?hd (cs:=#[.int .i64 a0_0,.int .i64 a0_1]) (t:=31) ?hr ?_;(case hd => rfl);(case hg => rfl);(case hr => first|(go_simp;done)|(go_simp;rfl));intro gb374 hg w5 hbox hb;have n0_:=aMk (below_step (by repeat first|exact HB.out|apply bwA|apply bwN|apply bw1) hb);have n1_:=aMk (hbox);have n2_:=aMk ((by rw [hg];exact (below_size (by repeat first|exact HB.out|apply bwA|apply bwN|apply bw1)) : w.heap.size ≤ gb374));have n3_:=aMk ((by rw [hg];exact (below_size (by repeat first|exact HB.out|apply bwA|apply bwN|apply bw1)) : w.heap.size ≤ gb374));clear HB;have HB:=n0_;have BK374:=n1_;have GW374:=n2_;have GE374:=n3_;clear n0_ n1_ n2_ n3_;clear hb hbox hg)|((with_reducible refine gate_dst (N:=3) rfl ?_);refine box_event ?hg (N:=3) ?hd (cs:=#[.int .i64 a1_0,.int .i64 a1_1]) (t:=31) ?hr ?_;(case hd => rfl);(case hg => rfl);(case hr => first|(go_simp;done)|(go_simp;rfl));intro gb375 hg w6 hbox hb;have n0_:=aMk (blk_below (g:=gb374) (o:=.cells #[.int .i64 a0_0,.int .i64 a0_1] 31 (0,0)) (by (with_reducible repeat (first|refine bDn ?_ _|refine bDr ?_|refine bAl ?_ _));exact BK374.out) hb);have n1_:=aMk (below_step (by repeat (first|(with_reducible first|exact HB.out|apply bwA|apply bwN|apply bw1|refine below_set ?_ GE374.out)|exact HB.out)) hb);have n2_:=aMk (hbox);have n3_:=aMk ((by rw [hg];exact (below_size (by repeat (first|(with_reducible first|exact HB.out|apply bwA|apply bwN|apply bw1|refine below_set ?_ GE374.out)|exact HB.out))) : w.heap.size ≤ gb375));have n4_:=aMk ((by rw [hg];exact (below_size (by repeat (first|(with_reducible first|exact HB.out|apply bwA|apply bwN|apply bw1|refine below_set ?_ GE374.out)|exact HB.out))) : w.heap.size ≤ gb375));have n5_:=aMk ((by rw [hg];exact Nat.ne_of_lt (blk_lt (g:=gb374) (o:=.cells #[.int .i64 a0_0,.int .i64 a0_1] 31 (0,0)) (by (with_reducible repeat (first|refine bDn ?_ _|refine bDr ?_|refine bAl ?_ _));exact BK374.out)) : gb374 ≠ gb375));have n6_:=aMk ((by rw [hg];exact Nat.ne_of_gt (blk_lt (g:=gb374) (o:=.cells #[.int .i64 a0_0,.int .i64 a0_1] 31 (0,0)) (by (with_reducible repeat (first|refine bDn ?_ _|refine bDr ?_|refine bAl ?_ _));exact BK374.out)) : gb375 ≠ gb374));clear BK374;clear HB;have BK374:=n0_;have HB:=n1_;have BK375:=n2_;have GW375:=n3_;have GE375:=n4_;have NB374_375:=n5_;have NB375_374:=n6_;clear n0_ n1_ n2_ n3_ n4_ n5_ n6_;clear hb hbox hg;have hnb7:=NB374_375.out;have hnc7:=NB375_374.out;have hcz8_0 : w6.cell? ⟨gb374,0,none⟩ = some (.int .i64 a0_0):=(bCe BK374.out 0).trans rfl;have hcz8_1 : w6.cell? ⟨gb374,1,none⟩ = some (.int .i64 a0_1):=(bCe BK374.out 1).trans rfl;have hfz8_0:=bFr BK374.out 0;have hfz8_1:=bFr BK374.out 1;have hcz9_0 : w6.cell? ⟨gb375,0,none⟩ = some (.int .i64 a1_0):=(bCe BK375.out 0).trans rfl;have hcz9_1 : w6.cell? ⟨gb375,1,none⟩ = some (.int .i64 a1_1):=(bCe BK375.out 1).trans rfl;have hfz9_0:=bFr BK375.out 0;have hfz9_1:=bFr BK375.out 1))
   go_ret
   exact ⟨by first | rfl|(simp [errW_none,errW_some] <;> rfl)|(simp [*,errW_none,errW_some] <;> rfl),by repeat (first|(with_reducible first|exact HB.out|apply bwA|apply bwN|apply bw1|refine below_set ?_ GE374.out|refine below_set ?_ GE375.out)|exact HB.out)⟩
  ·rw [if_neg c4] at H
   have c4b0 : (a0_1 == a1_1) = false:=beq_eq_false_iff_ne.mpr c4
   have c4b1 : (a0_1 != a1_1) = true:=bne_iff_ne.mpr c4
   obtain rfl:=Option.some.inj H
   go_enter Tryd.func29,Tryd.ntmps29
   go_wp2_with (first|((with_reducible refine gate_dst (N:=2) rfl ?_);refine box_event ?hg (N:=2) ?hd (cs:=#[.int .i64 a0_0,.int .i64 a0_1]) (t:=31) ?hr ?_;(case hd => rfl);(case hg => rfl);(case hr => first|(go_simp;done)|(go_simp;rfl));intro gb374 hg w10 hbox hb;have n0_:=aMk (below_step (by repeat first|exact HB.out|apply bwA|apply bwN|apply bw1) hb);have n1_:=aMk (hbox);have n2_:=aMk ((by rw [hg];exact (below_size (by repeat first|exact HB.out|apply bwA|apply bwN|apply bw1)) : w.heap.size ≤ gb374));have n3_:=aMk ((by rw [hg];exact (below_size (by repeat first|exact HB.out|apply bwA|apply bwN|apply bw1)) : w.heap.size ≤ gb374));clear HB;have HB:=n0_;have BK374:=n1_;have GW374:=n2_;have GE374:=n3_;clear n0_ n1_ n2_ n3_;clear hb hbox hg)|((with_reducible refine gate_dst (N:=3) rfl ?_);refine box_event ?hg (N:=3) ?hd (cs:=#[.int .i64 a1_0,.int .i64 a1_1]) (t:=31) ?hr ?_;(case hd => rfl);(case hg => rfl);(case hr => first|(go_simp;done)|(go_simp;rfl));intro gb375 hg w11 hbox hb;have n0_:=aMk (blk_below (g:=gb374) (o:=.cells #[.int .i64 a0_0,.int .i64 a0_1] 31 (0,0)) (by (with_reducible repeat (first|refine bDn ?_ _|refine bDr ?_|refine bAl ?_ _));exact BK374.out) hb);have n1_:=aMk (below_step (by repeat (first|(with_reducible first|exact HB.out|apply bwA|apply bwN|apply bw1|refine below_set ?_ GE374.out)|exact HB.out)) hb);have n2_:=aMk (hbox);have n3_:=aMk ((by rw [hg];exact (below_size (by repeat (first|(with_reducible first|exact HB.out|apply bwA|apply bwN|apply bw1|refine below_set ?_ GE374.out)|exact HB.out))) : w.heap.size ≤ gb375));have n4_:=aMk ((by rw [hg];exact (below_size (by repeat (first|(with_reducible first|exact HB.out|apply bwA|apply bwN|apply bw1|refine below_set ?_ GE374.out)|exact HB.out))) : w.heap.size ≤ gb375));have n5_:=aMk ((by rw [hg];exact Nat.ne_of_lt (blk_lt (g:=gb374) (o:=.cells #[.int .i64 a0_0,.int .i64 a0_1] 31 (0,0)) (by (with_reducible repeat (first|refine bDn ?_ _|refine bDr ?_|refine bAl ?_ _));exact BK374.out)) : gb374 ≠ gb375));have n6_:=aMk ((by rw [hg];exact Nat.ne_of_gt (blk_lt (g:=gb374) (o:=.cells #[.int .i64 a0_0,.int .i64 a0_1] 31 (0,0)) (by (with_reducible repeat (first|refine bDn ?_ _|refine bDr ?_|refine bAl ?_ _));exact BK374.out)) : gb375 ≠ gb374));clear BK374;clear HB;have BK374:=n0_;have HB:=n1_;have BK375:=n2_;have GW375:=n3_;have GE375:=n4_;have NB374_375:=n5_;have NB375_374:=n6_;clear n0_ n1_ n2_ n3_ n4_ n5_ n6_;clear hb hbox hg;have hnb12:=NB374_375.out;have hnc12:=NB375_374.out;have hcz13_0 : w11.cell? ⟨gb374,0,none⟩ = some (.int .i64 a0_0):=(bCe BK374.out 0).trans rfl;have hcz13_1 : w11.cell? ⟨gb374,1,none⟩ = some (.int .i64 a0_1):=(bCe BK374.out 1).trans rfl;have hfz13_0:=bFr BK374.out 0;have hfz13_1:=bFr BK374.out 1;have hcz14_0 : w11.cell? ⟨gb375,0,none⟩ = some (.int .i64 a1_0):=(bCe BK375.out 0).trans rfl;have hcz14_1 : w11.cell? ⟨gb375,1,none⟩ = some (.int .i64 a1_1):=(bCe BK375.out 1).trans rfl;have hfz14_0:=bFr BK375.out 0;have hfz14_1:=bFr BK375.out 1))
   go_ret
   exact ⟨by first | rfl|(simp [errW_none,errW_some] <;> rfl)|(simp [*,errW_none,errW_some] <;> rfl),by repeat (first|(with_reducible first|exact HB.out|apply bwA|apply bwN|apply bw1|refine below_set ?_ GE374.out|refine below_set ?_ GE375.out)|exact HB.out)⟩
 ·rw [if_neg c3] at H
  have c3b0 : (a0_0 == a1_0) = false:=beq_eq_false_iff_ne.mpr c3
  have c3b1 : (a0_0 != a1_0) = true:=bne_iff_ne.mpr c3
  obtain rfl:=Option.some.inj H
  go_enter Tryd.func29,Tryd.ntmps29
  go_wp2_with (first|((with_reducible refine gate_dst (N:=2) rfl ?_);refine box_event ?hg (N:=2) ?hd (cs:=#[.int .i64 a0_0,.int .i64 a0_1]) (t:=31) ?hr ?_;(case hd => rfl);(case hg => rfl);(case hr => first|(go_simp;done)|(go_simp;rfl));intro gb374 hg w15 hbox hb;have n0_:=aMk (below_step (by repeat first|exact HB.out|apply bwA|apply bwN|apply bw1) hb);have n1_:=aMk (hbox);have n2_:=aMk ((by rw [hg];exact (below_size (by repeat first|exact HB.out|apply bwA|apply bwN|apply bw1)) : w.heap.size ≤ gb374));have n3_:=aMk ((by rw [hg];exact (below_size (by repeat first|exact HB.out|apply bwA|apply bwN|apply bw1)) : w.heap.size ≤ gb374));clear HB;have HB:=n0_;have BK374:=n1_;have GW374:=n2_;have GE374:=n3_;clear n0_ n1_ n2_ n3_;clear hb hbox hg)|((with_reducible refine gate_dst (N:=3) rfl ?_);refine box_event ?hg (N:=3) ?hd (cs:=#[.int .i64 a1_0,.int .i64 a1_1]) (t:=31) ?hr ?_;(case hd => rfl);(case hg => rfl);(case hr => first|(go_simp;done)|(go_simp;rfl));intro gb375 hg w16 hbox hb;have n0_:=aMk (blk_below (g:=gb374) (o:=.cells #[.int .i64 a0_0,.int .i64 a0_1] 31 (0,0)) (by (with_reducible repeat (first|refine bDn ?_ _|refine bDr ?_|refine bAl ?_ _));exact BK374.out) hb);have n1_:=aMk (below_step (by repeat (first|(with_reducible first|exact HB.out|apply bwA|apply bwN|apply bw1|refine below_set ?_ GE374.out)|exact HB.out)) hb);have n2_:=aMk (hbox);have n3_:=aMk ((by rw [hg];exact (below_size (by repeat (first|(with_reducible first|exact HB.out|apply bwA|apply bwN|apply bw1|refine below_set ?_ GE374.out)|exact HB.out))) : w.heap.size ≤ gb375));have n4_:=aMk ((by rw [hg];exact (below_size (by repeat (first|(with_reducible first|exact HB.out|apply bwA|apply bwN|apply bw1|refine below_set ?_ GE374.out)|exact HB.out))) : w.heap.size ≤ gb375));have n5_:=aMk ((by rw [hg];exact Nat.ne_of_lt (blk_lt (g:=gb374) (o:=.cells #[.int .i64 a0_0,.int .i64 a0_1] 31 (0,0)) (by (with_reducible repeat (first|refine bDn ?_ _|refine bDr ?_|refine bAl ?_ _));exact BK374.out)) : gb374 ≠ gb375));have n6_:=aMk ((by rw [hg];exact Nat.ne_of_gt (blk_lt (g:=gb374) (o:=.cells #[.int .i64 a0_0,.int .i64 a0_1] 31 (0,0)) (by (with_reducible repeat (first|refine bDn ?_ _|refine bDr ?_|refine bAl ?_ _));exact BK374.out)) : gb375 ≠ gb374));clear BK374;clear HB;have BK374:=n0_;have HB:=n1_;have BK375:=n2_;have GW375:=n3_;have GE375:=n4_;have NB374_375:=n5_;have NB375_374:=n6_;clear n0_ n1_ n2_ n3_ n4_ n5_ n6_;clear hb hbox hg;have hnb17:=NB374_375.out;have hnc17:=NB375_374.out;have hcz18_0 : w16.cell? ⟨gb374,0,none⟩ = some (.int .i64 a0_0):=(bCe BK374.out 0).trans rfl;have hcz18_1 : w16.cell? ⟨gb374,1,none⟩ = some (.int .i64 a0_1):=(bCe BK374.out 1).trans rfl;have hfz18_0:=bFr BK374.out 0;have hfz18_1:=bFr BK374.out 1;have hcz19_0 : w16.cell? ⟨gb375,0,none⟩ = some (.int .i64 a1_0):=(bCe BK375.out 0).trans rfl;have hcz19_1 : w16.cell? ⟨gb375,1,none⟩ = some (.int .i64 a1_1):=(bCe BK375.out 1).trans rfl;have hfz19_0:=bFr BK375.out 0;have hfz19_1:=bFr BK375.out 1))
  go_ret
  exact ⟨by first | rfl|(simp [errW_none,errW_some] <;> rfl)|(simp [*,errW_none,errW_some] <;> rfl),by repeat (first|(with_reducible first|exact HB.out|apply bwA|apply bwN|apply bw1|refine below_set ?_ GE374.out|refine below_set ?_ GE375.out)|exact HB.out)⟩
end
section
/-! ### laws_eqRule: function 10 -/
def laws_eqRule.f (a0_0 : Int) (a0_1 : Int) (a0_2 : Int) (a0_3 : Int) (a0_4 : Int) (a0_5 : Bool) (a1_0 : Int) (a1_1 : Int) (a1_2 : Int) (a1_3 : Int) (a1_4 : Int) (a1_5 : Bool) : Option (Bool):=if a0_0 = a1_0 then ((laws_eqNet.f a0_1 a0_2 a1_1 a1_2).bind fun t378 => (if t378 = true then ((laws_eqRange.f a0_3 a0_4 a1_3 a1_4).bind fun t379 => (if t379 = true then (if (a0_5 != a1_5) = true then (some false) else (some true)) else (some false))) else (some false))) else (some false)
set_option maxHeartbeats 8000000 in
set_option maxRecDepth 100000 in
theorem laws_eqRule.calls (a0_0 : Int) (a0_1 : Int) (a0_2 : Int) (a0_3 : Int) (a0_4 : Int) (a0_5 : Bool) (a1_0 : Int) (a1_1 : Int) (a1_2 : Int) (a1_3 : Int) (a1_4 : Int) (a1_5 : Bool) (r : Bool) (w : World) (h : laws_eqRule.f a0_0 a0_1 a0_2 a0_3 a0_4 a0_5 a1_0 a1_1 a1_2 a1_3 a1_4 a1_5 = some r) :
  Calls Tryd.prog 10 #[.agg #[.int .i64 a0_0,.int .i64 a0_1,.int .i64 a0_2,.int .i64 a0_3,.int .i64 a0_4,.bool a0_5],.agg #[.int .i64 a1_0,.int .i64 a1_1,.int .i64 a1_2,.int .i64 a1_3,.int .i64 a1_4,.bool a1_5]] w fun e w' => e = .returned (.bool r) ∧ Below w.heap.size w w':=by
 have hu33:=Tryd.underlying33
 have hu30:=Tryd.underlying30
 have hu31:=Tryd.underlying31
 have HB:=aMk (Below.refl w.heap.size w)
 have H : (if a0_0 = a1_0 then ((laws_eqNet.f a0_1 a0_2 a1_1 a1_2).bind fun t378 => (if t378 = true then ((laws_eqRange.f a0_3 a0_4 a1_3 a1_4).bind fun t379 => (if t379 = true then (if (a0_5 != a1_5) = true then (some false) else (some true)) else (some false))) else (some false))) else (some false)) = some r:=h
 clear h
 by_cases c3 : a0_0 = a1_0
 ·rw [if_pos c3] at H
  have c3b0 : (a0_0 == a1_0) = true:=beq_iff_eq.mpr c3
  have c3b1 : (a0_0 != a1_0) = false:=bne_eq_false_iff_eq.mpr c3
  clear c3
  replace H:=Option.bind_eq_some_iff.mp H
  obtain ⟨t378,A40,H⟩:=H
  replace H : (if t378 = true then ((laws_eqRange.f a0_3 a0_4 a1_3 a1_4).bind fun t379 => (if t379 = true then (if (a0_5 != a1_5) = true then (some false) else (some true)) else (some false))) else (some false)) = some r:=H
  have A4:=aMk A40
  clear A40
  by_cases c5 : t378 = true
  ·subst c5
   have H1 : ((laws_eqRange.f a0_3 a0_4 a1_3 a1_4).bind fun t379 => (if t379 = true then (if (a0_5 != a1_5) = true then (some false) else (some true)) else (some false))) = some r:=by rw [if_pos rfl] at H;exact H
   clear H
   have H:=H1
   clear H1
   replace H:=Option.bind_eq_some_iff.mp H
   obtain ⟨t379,A60,H⟩:=H
   replace H : (if t379 = true then (if (a0_5 != a1_5) = true then (some false) else (some true)) else (some false)) = some r:=H
   have A6:=aMk A60
   clear A60
   by_cases c7 : t379 = true
   ·subst c7
    have H1 : (if (a0_5 != a1_5) = true then (some false) else (some true)) = some r:=by rw [if_pos rfl] at H;exact H
    clear H
    have H:=H1
    clear H1
    by_cases c8 : (a0_5 != a1_5) = true
    ·rw [if_pos c8] at H
     have c8b0 : (a0_5 != a1_5) = true:=c8
     (try (have c8b1 : decide (a0_5 = a1_5) = false:=by simpa using c8))
     (try (have c8b2 : (a0_5 == a1_5) = false:=by simpa using c8))
     (try (have c8b3 : ¬ (a0_5 = a1_5):=by simpa using c8))
     clear c8
     obtain rfl:=Option.some.inj H
     go_enter Tryd.func10,Tryd.ntmps10
     go_wp2_with (first|((with_reducible refine gate_dst (N:=2) rfl ?_);refine box_event ?hg (N:=2) ?hd (cs:=#[.int .i64 a0_0,.int .i64 a0_1,.int .i64 a0_2,.int .i64 a0_3,.int .i64 a0_4,.bool a0_5]) (t:=33) ?hr ?_;(case hd => rfl);(case hg => rfl);(case hr => first|(go_simp;done)|(go_simp;rfl));intro gb376 hg w9 hbox hb;have n0_:=aMk (below_step (by repeat first|exact HB.out|apply bwA|apply bwN|apply bw1) hb);have n1_:=aMk (hbox);have n2_:=aMk ((by rw [hg];exact (below_size (by repeat first|exact HB.out|apply bwA|apply bwN|apply bw1)) : w.heap.size ≤ gb376));have n3_:=aMk ((by rw [hg];exact (below_size (by repeat first|exact HB.out|apply bwA|apply bwN|apply bw1)) : w.heap.size ≤ gb376));clear HB;have HB:=n0_;have BK376:=n1_;have GW376:=n2_;have GE376:=n3_;clear n0_ n1_ n2_ n3_;clear hb hbox hg)|((with_reducible refine gate_dst (N:=3) rfl ?_);refine box_event ?hg (N:=3) ?hd (cs:=#[.int .i64 a1_0,.int .i64 a1_1,.int .i64 a1_2,.int .i64 a1_3,.int .i64 a1_4,.bool a1_5]) (t:=33) ?hr ?_;(case hd => rfl);(case hg => rfl);(case hr => first|(go_simp;done)|(go_simp;rfl));intro gb377 hg w10 hbox hb;have n0_:=aMk (blk_below (g:=gb376) (o:=.cells #[.int .i64 a0_0,.int .i64 a0_1,.int .i64 a0_2,.int .i64 a0_3,.int .i64 a0_4,.bool a0_5] 33 (0,0)) (by (with_reducible repeat (first|refine bDn ?_ _|refine bDr ?_|refine bAl ?_ _));exact BK376.out) hb);have n1_:=aMk (below_step (by repeat (first|(with_reducible first|exact HB.out|apply bwA|apply bwN|apply bw1|refine below_set ?_ GE376.out)|exact HB.out)) hb);have n2_:=aMk (hbox);have n3_:=aMk ((by rw [hg];exact (below_size (by repeat (first|(with_reducible first|exact HB.out|apply bwA|apply bwN|apply bw1|refine below_set ?_ GE376.out)|exact HB.out))) : w.heap.size ≤ gb377));have n4_:=aMk ((by rw [hg];exact (below_size (by repeat (first|(with_reducible first|exact HB.out|apply bwA|apply bwN|apply bw1|refine below_set ?_ GE376.out)|exact HB.out))) : w.heap.size ≤ gb377));have n5_:=aMk ((by rw [hg];exact Nat.ne_of_lt (blk_lt (g:=gb376) (o:=.cells #[.int .i64 a0_0,.int .i64 a0_1,.int .i64 a0_2,.int .i64 a0_3,.int .i64 a0_4,.bool a0_5] 33 (0,0)) (by (with_reducible repeat (first|refine bDn ?_ _|refine bDr ?_|refine bAl ?_ _));exact BK376.out)) : gb376 ≠ gb377));have n6_:=aMk ((by rw [hg];exact Nat.ne_of_gt (blk_lt (g:=gb376) (o:=.cells #[.int .i64 a0_0,.int .i64 a0_1,.int .i64 a0_2,.int .i64 a0_3,.int .i64 a0_4,.bool a0_5] 33 (0,0)) (by (with_reducible repeat (first|refine bDn ?_ _|refine bDr ?_|refine bAl ?_ _));exact BK376.out)) : gb377 ≠ gb376));clear BK376;clear HB;have BK376:=n0_;have HB:=n1_;have BK377:=n2_;have GW377:=n3_;have GE377:=n4_;have NB376_377:=n5_;have NB377_376:=n6_;clear n0_ n1_ n2_ n3_ n4_ n5_ n6_;clear hb hbox hg;have hnb11:=NB376_377.out;have hnc11:=NB377_376.out;have hcz12_0 : w10.cell? ⟨gb376,0,none⟩ = some (.int .i64 a0_0):=(bCe BK376.out 0).trans rfl;have hcz12_1 : w10.cell? ⟨gb376,1,none⟩ = some (.int .i64 a0_1):=(bCe BK376.out 1).trans rfl;have hcz12_2 : w10.cell? ⟨gb376,2,none⟩ = some (.int .i64 a0_2):=(bCe BK376.out 2).trans rfl;have hcz12_3 : w10.cell? ⟨gb376,3,none⟩ = some (.int .i64 a0_3):=(bCe BK376.out 3).trans rfl;have hcz12_4 : w10.cell? ⟨gb376,4,none⟩ = some (.int .i64 a0_4):=(bCe BK376.out 4).trans rfl;have hcz12_5 : w10.cell? ⟨gb376,5,none⟩ = some (.bool a0_5):=(bCe BK376.out 5).trans rfl;have hfz12_0:=bFr BK376.out 0;have hfz12_1:=bFr BK376.out 1;have hfz12_2:=bFr BK376.out 2;have hfz12_3:=bFr BK376.out 3;have hfz12_4:=bFr BK376.out 4;have hfz12_5:=bFr BK376.out 5;have hcz13_0 : w10.cell? ⟨gb377,0,none⟩ = some (.int .i64 a1_0):=(bCe BK377.out 0).trans rfl;have hcz13_1 : w10.cell? ⟨gb377,1,none⟩ = some (.int .i64 a1_1):=(bCe BK377.out 1).trans rfl;have hcz13_2 : w10.cell? ⟨gb377,2,none⟩ = some (.int .i64 a1_2):=(bCe BK377.out 2).trans rfl;have hcz13_3 : w10.cell? ⟨gb377,3,none⟩ = some (.int .i64 a1_3):=(bCe BK377.out 3).trans rfl;have hcz13_4 : w10.cell? ⟨gb377,4,none⟩ = some (.int .i64 a1_4):=(bCe BK377.out 4).trans rfl;have hcz13_5 : w10.cell? ⟨gb377,5,none⟩ = some (.bool a1_5):=(bCe BK377.out 5).trans rfl;have hfz13_0:=bFr BK377.out 0;have hfz13_1:=bFr BK377.out 1;have hfz13_2:=bFr BK377.out 2;have hfz13_3:=bFr BK377.out 3;have hfz13_4:=bFr BK377.out 4;have hfz13_5:=bFr BK377.out 5)|((with_reducible refine gate_callee (f:=28) rfl ?_);refine goesL_ (some 14) rfl rfl Tryd.func28 (by kernel_rfl) rfl #[.agg #[.int .i64 a0_1,.int .i64 a0_2],.agg #[.int .i64 a1_1,.int .i64 a1_2]] rfl (by (try simp only [List.map_toArray,List.map_cons,List.map_nil]);first | done | rfl|(simp only [List.length_drop,List.length_take];rfl)) ?_;(with_reducible refine (laws_eqNet.calls a0_1 a0_2 a1_1 a1_2 true _ A4.out).mono ?_);rintro e w14 ⟨rfl,hb⟩;refine ⟨_,rfl,?_⟩;have n0_:=aMk (blk_below (g:=gb376) (o:=.cells #[.int .i64 a0_0,.int .i64 a0_1,.int .i64 a0_2,.int .i64 a0_3,.int .i64 a0_4,.bool a0_5] 33 (0,0)) (by (with_reducible repeat (first|refine bDn ?_ _|refine bDr ?_|refine bAl ?_ _));exact BK376.out) hb);have n1_:=aMk (blk_below (g:=gb377) (o:=.cells #[.int .i64 a1_0,.int .i64 a1_1,.int .i64 a1_2,.int .i64 a1_3,.int .i64 a1_4,.bool a1_5] 33 (0,0)) (by (with_reducible repeat (first|refine bDn ?_ _|refine bDr ?_|refine bAl ?_ _));exact BK377.out) hb);have n2_:=aMk (below_step (by repeat (first|(with_reducible first|exact HB.out|apply bwA|apply bwN|apply bw1|refine below_set ?_ GE376.out|refine below_set ?_ GE377.out)|exact HB.out)) hb);clear BK376;clear BK377;clear HB;have BK376:=n0_;have BK377:=n1_;have HB:=n2_;clear n0_ n1_ n2_;(try clear hb);(try clear hb2);(try clear hk);(try clear hi);have hcz15_0 : w14.cell? ⟨gb376,0,none⟩ = some (.int .i64 a0_0):=(bCe BK376.out 0).trans rfl;have hcz15_1 : w14.cell? ⟨gb376,1,none⟩ = some (.int .i64 a0_1):=(bCe BK376.out 1).trans rfl;have hcz15_2 : w14.cell? ⟨gb376,2,none⟩ = some (.int .i64 a0_2):=(bCe BK376.out 2).trans rfl;have hcz15_3 : w14.cell? ⟨gb376,3,none⟩ = some (.int .i64 a0_3):=(bCe BK376.out 3).trans rfl;have hcz15_4 : w14.cell? ⟨gb376,4,none⟩ = some (.int .i64 a0_4):=(bCe BK376.out 4).trans rfl;have hcz15_5 : w14.cell? ⟨gb376,5,none⟩ = some (.bool a0_5):=(bCe BK376.out 5).trans rfl;have hfz15_0:=bFr BK376.out 0;have hfz15_1:=bFr BK376.out 1;have hfz15_2:=bFr BK376.out 2;have hfz15_3:=bFr BK376.out 3;have hfz15_4:=bFr BK376.out 4;have hfz15_5:=bFr BK376.out 5;have hcz16_0 : w14.cell? ⟨gb377,0,none⟩ = some (.int .i64 a1_0):=(bCe BK377.out 0).trans rfl;have hcz16_1 : w14.cell? ⟨gb377,1,none⟩ = some (.int .i64 a1_1):=(bCe BK377.out 1).trans rfl;have hcz16_2 : w14.cell? ⟨gb377,2,none⟩ = some (.int .i64 a1_2):=(bCe BK377.out 2).trans rfl;have hcz16_3 : w14.cell? ⟨gb377,3,none⟩ = some (.int .i64 a1_3):=(bCe BK377.out 3).trans rfl;have hcz16_4 : w14.cell? ⟨gb377,4,none⟩ = some (.int .i64 a1_4):=(bCe BK377.out 4).trans rfl;have hcz16_5 : w14.cell? ⟨gb377,5,none⟩ = some (.bool a1_5):=(bCe BK377.out 5).trans rfl;have hfz16_0:=bFr BK377.out 0;have hfz16_1:=bFr BK377.out 1;have hfz16_2:=bFr BK377.out 2;have hfz16_3:=bFr BK377.out 3;have hfz16_4:=bFr BK377.out 4;have hfz16_5:=bFr BK377.out 5)|((with_reducible refine gate_callee (f:=29) rfl ?_);refine goesL_ (some 20) rfl rfl Tryd.func29 (by kernel_rfl) rfl #[.agg #[.int .i64 a0_3,.int .i64 a0_4],.agg #[.int .i64 a1_3,.int .i64 a1_4]] rfl (by (try simp only [List.map_toArray,List.map_cons,List.map_nil]);first | done | rfl|(simp only [List.length_drop,List.length_take];rfl)) ?_;(with_reducible refine (laws_eqRange.calls a0_3 a0_4 a1_3 a1_4 true _ A6.out).mono ?_);rintro e w17 ⟨rfl,hb⟩;refine ⟨_,rfl,?_⟩;have n0_:=aMk (blk_below (g:=gb376) (o:=.cells #[.int .i64 a0_0,.int .i64 a0_1,.int .i64 a0_2,.int .i64 a0_3,.int .i64 a0_4,.bool a0_5] 33 (0,0)) (by (with_reducible repeat (first|refine bDn ?_ _|refine bDr ?_|refine bAl ?_ _));exact BK376.out) hb);have n1_:=aMk (blk_below (g:=gb377) (o:=.cells #[.int .i64 a1_0,.int .i64 a1_1,.int .i64 a1_2,.int .i64 a1_3,.int .i64 a1_4,.bool a1_5] 33 (0,0)) (by (with_reducible repeat (first|refine bDn ?_ _|refine bDr ?_|refine bAl ?_ _));exact BK377.out) hb);have n2_:=aMk (below_step (by repeat (first|(with_reducible first|exact HB.out|apply bwA|apply bwN|apply bw1|refine below_set ?_ GE376.out|refine below_set ?_ GE377.out)|exact HB.out)) hb);clear BK376;clear BK377;clear HB;have BK376:=n0_;have BK377:=n1_;have HB:=n2_;clear n0_ n1_ n2_;(try clear hb);(try clear hb2);(try clear hk);(try clear hi);have hcz18_0 : w17.cell? ⟨gb376,0,none⟩ = some (.int .i64 a0_0):=(bCe BK376.out 0).trans rfl;have hcz18_1 : w17.cell? ⟨gb376,1,none⟩ = some (.int .i64 a0_1):=(bCe BK376.out 1).trans rfl;have hcz18_2 : w17.cell? ⟨gb376,2,none⟩ = some (.int .i64 a0_2):=(bCe BK376.out 2).trans rfl;have hcz18_3 : w17.cell? ⟨gb376,3,none⟩ = some (.int .i64 a0_3):=(bCe BK376.out 3).trans rfl;have hcz18_4 : w17.cell? ⟨gb376,4,none⟩ = some (.int .i64 a0_4):=(bCe BK376.out 4).trans rfl;have hcz18_5 : w17.cell? ⟨gb376,5,none⟩ = some (.bool a0_5):=(bCe BK376.out 5).trans rfl;have hfz18_0:=bFr BK376.out 0;have hfz18_1:=bFr BK376.out 1;have hfz18_2:=bFr BK376.out 2;have hfz18_3:=bFr BK376.out 3;have hfz18_4:=bFr BK376.out 4;have hfz18_5:=bFr BK376.out 5;have hcz19_0 : w17.cell? ⟨gb377,0,none⟩ = some (.int .i64 a1_0):=(bCe BK377.out 0).trans rfl;have hcz19_1 : w17.cell? ⟨gb377,1,none⟩ = some (.int .i64 a1_1):=(bCe BK377.out 1).trans rfl;have hcz19_2 : w17.cell? ⟨gb377,2,none⟩ = some (.int .i64 a1_2):=(bCe BK377.out 2).trans rfl;have hcz19_3 : w17.cell? ⟨gb377,3,none⟩ = some (.int .i64 a1_3):=(bCe BK377.out 3).trans rfl;have hcz19_4 : w17.cell? ⟨gb377,4,none⟩ = some (.int .i64 a1_4):=(bCe BK377.out 4).trans rfl;have hcz19_5 : w17.cell? ⟨gb377,5,none⟩ = some (.bool a1_5):=(bCe BK377.out 5).trans rfl;have hfz19_0:=bFr BK377.out 0;have hfz19_1:=bFr BK377.out 1;have hfz19_2:=bFr BK377.out 2;have hfz19_3:=bFr BK377.out 3;have hfz19_4:=bFr BK377.out 4;have hfz19_5:=bFr BK377.out 5))
     go_ret
     exact ⟨by first | rfl|(simp [errW_none,errW_some] <;> rfl)|(simp [*,errW_none,errW_some] <;> rfl),by repeat (first|(with_reducible first|exact HB.out|apply bwA|apply bwN|apply bw1|refine below_set ?_ GE376.out|refine below_set ?_ GE377.out)|exact HB.out)⟩
    ·rw [if_neg c8] at H
     have c8b0 : (a0_5 != a1_5) = false:=by simpa using c8
     (try (have c8b1 : decide (a0_5 = a1_5) = true:=by simpa using c8))
     (try (have c8b2 : (a0_5 == a1_5) = true:=by simpa using c8))
     clear c8
     obtain rfl:=Option.some.inj H
     go_enter Tryd.func10,Tryd.ntmps10
     go_wp2_with (first|((with_reducible refine gate_dst (N:=2) rfl ?_);refine box_event ?hg (N:=2) ?hd (cs:=#[.int .i64 a0_0,.int .i64 a0_1,.int .i64 a0_2,.int .i64 a0_3,.int .i64 a0_4,.bool a0_5]) (t:=33) ?hr ?_;(case hd => rfl);(case hg => rfl);(case hr => first|(go_simp;done)|(go_simp;rfl));intro gb376 hg w20 hbox hb;have n0_:=aMk (below_step (by repeat first|exact HB.out|apply bwA|apply bwN|apply bw1) hb);have n1_:=aMk (hbox);have n2_:=aMk ((by rw [hg];exact (below_size (by repeat first|exact HB.out|apply bwA|apply bwN|apply bw1)) : w.heap.size ≤ gb376));have n3_:=aMk ((by rw [hg];exact (below_size (by repeat first|exact HB.out|apply bwA|apply bwN|apply bw1)) : w.heap.size ≤ gb376));clear HB;have HB:=n0_;have BK376:=n1_;have GW376:=n2_;have GE376:=n3_;clear n0_ n1_ n2_ n3_;clear hb hbox hg)|((with_reducible refine gate_dst (N:=3) rfl ?_);refine box_event ?hg (N:=3) ?hd (cs:=#[.int .i64 a1_0,.int .i64 a1_1,.int .i64 a1_2,.int .i64 a1_3,.int .i64 a1_4,.bool a1_5]) (t:=33) ?hr ?_;(case hd => rfl);(case hg => rfl);(case hr => first|(go_simp;done)|(go_simp;rfl));intro gb377 hg w21 hbox hb;have n0_:=aMk (blk_below (g:=gb376) (o:=.cells #[.int .i64 a0_0,.int .i64 a0_1,.int .i64 a0_2,.int .i64 a0_3,.int .i64 a0_4,.bool a0_5] 33 (0,0)) (by (with_reducible repeat (first|refine bDn ?_ _|refine bDr ?_|refine bAl ?_ _));exact BK376.out) hb);have n1_:=aMk (below_step (by repeat (first|(with_reducible first|exact HB.out|apply bwA|apply bwN|apply bw1|refine below_set ?_ GE376.out)|exact HB.out)) hb);have n2_:=aMk (hbox);have n3_:=aMk ((by rw [hg];exact (below_size (by repeat (first|(with_reducible first|exact HB.out|apply bwA|apply bwN|apply bw1|refine below_set ?_ GE376.out)|exact HB.out))) : w.heap.size ≤ gb377));have n4_:=aMk ((by rw [hg];exact (below_size (by repeat (first|(with_reducible first|exact HB.out|apply bwA|apply bwN|apply bw1|refine below_set ?_ GE376.out)|exact HB.out))) : w.heap.size ≤ gb377));have n5_:=aMk ((by rw [hg];exact Nat.ne_of_lt (blk_lt (g:=gb376) (o:=.cells #[.int .i64 a0_0,.int .i64 a0_1,.int .i64 a0_2,.int .i64 a0_3,.int .i64 a0_4,.bool a0_5] 33 (0,0)) (by (with_reducible repeat (first|refine bDn ?_ _|refine bDr ?_|refine bAl ?_ _));exact BK376.out)) : gb376 ≠ gb377));have n6_:=aMk ((by rw [hg];exact Nat.ne_of_gt (blk_lt (g:=gb376) (o:=.cells #[.int .i64 a0_0,.int .i64 a0_1,.int .i64 a0_2,.int .i64 a0_3,.int .i64 a0_4,.bool a0_5] 33 (0,0)) (by (with_reducible repeat (first|refine bDn ?_ _|refine bDr ?_|refine bAl ?_ _));exact BK376.out)) : gb377 ≠ gb376));clear BK376;clear HB;have BK376:=n0_;have HB:=n1_;have BK377:=n2_;have GW377:=n3_;have GE377:=n4_;have NB376_377:=n5_;have NB377_376:=n6_;clear n0_ n1_ n2_ n3_ n4_ n5_ n6_;clear hb hbox hg;have hnb22:=NB376_377.out;have hnc22:=NB377_376.out;have hcz23_0 : w21.cell? ⟨gb376,0,none⟩ = some (.int .i64 a0_0):=(bCe BK376.out 0).trans rfl;have hcz23_1 : w21.cell? ⟨gb376,1,none⟩ = some (.int .i64 a0_1):=(bCe BK376.out 1).trans rfl;have hcz23_2 : w21.cell? ⟨gb376,2,none⟩ = some (.int .i64 a0_2):=(bCe BK376.out 2).trans rfl;have hcz23_3 : w21.cell? ⟨gb376,3,none⟩ = some (.int .i64 a0_3):=(bCe BK376.out 3).trans rfl;have hcz23_4 : w21.cell? ⟨gb376,4,none⟩ = some (.int .i64 a0_4):=(bCe BK376.out 4).trans rfl;have hcz23_5 : w21.cell? ⟨gb376,5,none⟩ = some (.bool a0_5):=(bCe BK376.out 5).trans rfl;have hfz23_0:=bFr BK376.out 0;have hfz23_1:=bFr BK376.out 1;have hfz23_2:=bFr BK376.out 2;have hfz23_3:=bFr BK376.out 3;have hfz23_4:=bFr BK376.out 4;have hfz23_5:=bFr BK376.out 5;have hcz24_0 : w21.cell? ⟨gb377,0,none⟩ = some (.int .i64 a1_0):=(bCe BK377.out 0).trans rfl;have hcz24_1 : w21.cell? ⟨gb377,1,none⟩ = some (.int .i64 a1_1):=(bCe BK377.out 1).trans rfl;have hcz24_2 : w21.cell? ⟨gb377,2,none⟩ = some (.int .i64 a1_2):=(bCe BK377.out 2).trans rfl;have hcz24_3 : w21.cell? ⟨gb377,3,none⟩ = some (.int .i64 a1_3):=(bCe BK377.out 3).trans rfl;have hcz24_4 : w21.cell? ⟨gb377,4,none⟩ = some (.int .i64 a1_4):=(bCe BK377.out 4).trans rfl;have hcz24_5 : w21.cell? ⟨gb377,5,none⟩ = some (.bool a1_5):=(bCe BK377.out 5).trans rfl;have hfz24_0:=bFr BK377.out 0;have hfz24_1:=bFr BK377.out 1;have hfz24_2:=bFr BK377.out 2;have hfz24_3:=bFr BK377.out 3;have hfz24_4:=bFr BK377.out 4;have hfz24_5:=bFr BK377.out 5)|((with_reducible refine gate_callee (f:=28) rfl ?_);refine goesL_ (some 14) rfl rfl Tryd.func28 (by kernel_rfl) rfl #[.agg #[.int .i64 a0_1,.int .i64 a0_2],.agg #[.int .i64 a1_1,.int .i64 a1_2]] rfl (by (try simp only [List.map_toArray,List.map_cons,List.map_nil]);first | done | rfl|(simp only [List.length_drop,List.length_take];rfl)) ?_;(with_reducible refine (laws_eqNet.calls a0_1 a0_2 a1_1 a1_2 true _ A4.out).mono ?_);rintro e w25 ⟨rfl,hb⟩;refine ⟨_,rfl,?_⟩;have n0_:=aMk (blk_below (g:=gb376) (o:=.cells #[.int .i64 a0_0,.int .i64 a0_1,.int .i64 a0_2,.int .i64 a0_3,.int .i64 a0_4,.bool a0_5] 33 (0,0)) (by (with_reducible repeat (first|refine bDn ?_ _|refine bDr ?_|refine bAl ?_ _));exact BK376.out) hb);have n1_:=aMk (blk_below (g:=gb377) (o:=.cells #[.int .i64 a1_0,.int .i64 a1_1,.int .i64 a1_2,.int .i64 a1_3,.int .i64 a1_4,.bool a1_5] 33 (0,0)) (by (with_reducible repeat (first|refine bDn ?_ _|refine bDr ?_|refine bAl ?_ _));exact BK377.out) hb);have n2_:=aMk (below_step (by repeat (first|(with_reducible first|exact HB.out|apply bwA|apply bwN|apply bw1|refine below_set ?_ GE376.out|refine below_set ?_ GE377.out)|exact HB.out)) hb);clear BK376;clear BK377;clear HB;have BK376:=n0_;have BK377:=n1_;have HB:=n2_;clear n0_ n1_ n2_;(try clear hb);(try clear hb2);(try clear hk);(try clear hi);have hcz26_0 : w25.cell? ⟨gb376,0,none⟩ = some (.int .i64 a0_0):=(bCe BK376.out 0).trans rfl;have hcz26_1 : w25.cell? ⟨gb376,1,none⟩ = some (.int .i64 a0_1):=(bCe BK376.out 1).trans rfl;have hcz26_2 : w25.cell? ⟨gb376,2,none⟩ = some (.int .i64 a0_2):=(bCe BK376.out 2).trans rfl;have hcz26_3 : w25.cell? ⟨gb376,3,none⟩ = some (.int .i64 a0_3):=(bCe BK376.out 3).trans rfl;have hcz26_4 : w25.cell? ⟨gb376,4,none⟩ = some (.int .i64 a0_4):=(bCe BK376.out 4).trans rfl;have hcz26_5 : w25.cell? ⟨gb376,5,none⟩ = some (.bool a0_5):=(bCe BK376.out 5).trans rfl;have hfz26_0:=bFr BK376.out 0;have hfz26_1:=bFr BK376.out 1;have hfz26_2:=bFr BK376.out 2;have hfz26_3:=bFr BK376.out 3;have hfz26_4:=bFr BK376.out 4;have hfz26_5:=bFr BK376.out 5;have hcz27_0 : w25.cell? ⟨gb377,0,none⟩ = some (.int .i64 a1_0):=(bCe BK377.out 0).trans rfl;have hcz27_1 : w25.cell? ⟨gb377,1,none⟩ = some (.int .i64 a1_1):=(bCe BK377.out 1).trans rfl;have hcz27_2 : w25.cell? ⟨gb377,2,none⟩ = some (.int .i64 a1_2):=(bCe BK377.out 2).trans rfl;have hcz27_3 : w25.cell? ⟨gb377,3,none⟩ = some (.int .i64 a1_3):=(bCe BK377.out 3).trans rfl;have hcz27_4 : w25.cell? ⟨gb377,4,none⟩ = some (.int .i64 a1_4):=(bCe BK377.out 4).trans rfl;have hcz27_5 : w25.cell? ⟨gb377,5,none⟩ = some (.bool a1_5):=(bCe BK377.out 5).trans rfl;have hfz27_0:=bFr BK377.out 0;have hfz27_1:=bFr BK377.out 1;have hfz27_2:=bFr BK377.out 2;have hfz27_3:=bFr BK377.out 3;have hfz27_4:=bFr BK377.out 4;have hfz27_5:=bFr BK377.out 5)|((with_reducible refine gate_callee (f:=29) rfl ?_);refine goesL_ (some 20) rfl rfl Tryd.func29 (by kernel_rfl) rfl #[.agg #[.int .i64 a0_3,.int .i64 a0_4],.agg #[.int .i64 a1_3,.int .i64 a1_4]] rfl (by (try simp only [List.map_toArray,List.map_cons,List.map_nil]);first | done | rfl|(simp only [List.length_drop,List.length_take];rfl)) ?_;(with_reducible refine (laws_eqRange.calls a0_3 a0_4 a1_3 a1_4 true _ A6.out).mono ?_);rintro e w28 ⟨rfl,hb⟩;refine ⟨_,rfl,?_⟩;have n0_:=aMk (blk_below (g:=gb376) (o:=.cells #[.int .i64 a0_0,.int .i64 a0_1,.int .i64 a0_2,.int .i64 a0_3,.int .i64 a0_4,.bool a0_5] 33 (0,0)) (by (with_reducible repeat (first|refine bDn ?_ _|refine bDr ?_|refine bAl ?_ _));exact BK376.out) hb);have n1_:=aMk (blk_below (g:=gb377) (o:=.cells #[.int .i64 a1_0,.int .i64 a1_1,.int .i64 a1_2,.int .i64 a1_3,.int .i64 a1_4,.bool a1_5] 33 (0,0)) (by (with_reducible repeat (first|refine bDn ?_ _|refine bDr ?_|refine bAl ?_ _));exact BK377.out) hb);have n2_:=aMk (below_step (by repeat (first|(with_reducible first|exact HB.out|apply bwA|apply bwN|apply bw1|refine below_set ?_ GE376.out|refine below_set ?_ GE377.out)|exact HB.out)) hb);clear BK376;clear BK377;clear HB;have BK376:=n0_;have BK377:=n1_;have HB:=n2_;clear n0_ n1_ n2_;(try clear hb);(try clear hb2);(try clear hk);(try clear hi);have hcz29_0 : w28.cell? ⟨gb376,0,none⟩ = some (.int .i64 a0_0):=(bCe BK376.out 0).trans rfl;have hcz29_1 : w28.cell? ⟨gb376,1,none⟩ = some (.int .i64 a0_1):=(bCe BK376.out 1).trans rfl;have hcz29_2 : w28.cell? ⟨gb376,2,none⟩ = some (.int .i64 a0_2):=(bCe BK376.out 2).trans rfl;have hcz29_3 : w28.cell? ⟨gb376,3,none⟩ = some (.int .i64 a0_3):=(bCe BK376.out 3).trans rfl;have hcz29_4 : w28.cell? ⟨gb376,4,none⟩ = some (.int .i64 a0_4):=(bCe BK376.out 4).trans rfl;have hcz29_5 : w28.cell? ⟨gb376,5,none⟩ = some (.bool a0_5):=(bCe BK376.out 5).trans rfl;have hfz29_0:=bFr BK376.out 0;have hfz29_1:=bFr BK376.out 1;have hfz29_2:=bFr BK376.out 2;have hfz29_3:=bFr BK376.out 3;have hfz29_4:=bFr BK376.out 4;have hfz29_5:=bFr BK376.out 5;have hcz30_0 : w28.cell? ⟨gb377,0,none⟩ = some (.int .i64 a1_0):=(bCe BK377.out 0).trans rfl;have hcz30_1 : w28.cell? ⟨gb377,1,none⟩ = some (.int .i64 a1_1):=(bCe BK377.out 1).trans rfl;have hcz30_2 : w28.cell? ⟨gb377,2,none⟩ = some (.int .i64 a1_2):=(bCe BK377.out 2).trans rfl;have hcz30_3 : w28.cell? ⟨gb377,3,none⟩ = some (.int .i64 a1_3):=(bCe BK377.out 3).trans rfl;have hcz30_4 : w28.cell? ⟨gb377,4,none⟩ = some (.int .i64 a1_4):=(bCe BK377.out 4).trans rfl;have hcz30_5 : w28.cell? ⟨gb377,5,none⟩ = some (.bool a1_5):=(bCe BK377.out 5).trans rfl;have hfz30_0:=bFr BK377.out 0;have hfz30_1:=bFr BK377.out 1;have hfz30_2:=bFr BK377.out 2;have hfz30_3:=bFr BK377.out 3;have hfz30_4:=bFr BK377.out 4;have hfz30_5:=bFr BK377.out 5))
     go_ret
     exact ⟨by first | rfl|(simp [errW_none,errW_some] <;> rfl)|(simp [*,errW_none,errW_some] <;> rfl),by repeat (first|(with_reducible first|exact HB.out|apply bwA|apply bwN|apply bw1|refine below_set ?_ GE376.out|refine below_set ?_ GE377.out)|exact HB.out)⟩
   ·replace c7:=Bool.eq_false_iff.mpr c7
    subst c7
    have H1 : (some false) = some r:=by rw [if_neg (show ¬ (false = true) by decide)] at H;exact H
    clear H
    have H:=H1
    clear H1
    obtain rfl:=Option.some.inj H
    go_enter Tryd.func10,Tryd.ntmps10
    go_wp2_with (first|((with_reducible refine gate_dst (N:=2) rfl ?_);refine box_event ?hg (N:=2) ?hd (cs:=#[.int .i64 a0_0,.int .i64 a0_1,.int .i64 a0_2,.int .i64 a0_3,.int .i64 a0_4,.bool a0_5]) (t:=33) ?hr ?_;(case hd => rfl);(case hg => rfl);(case hr => first|(go_simp;done)|(go_simp;rfl));intro gb376 hg w31 hbox hb;have n0_:=aMk (below_step (by repeat first|exact HB.out|apply bwA|apply bwN|apply bw1) hb);have n1_:=aMk (hbox);have n2_:=aMk ((by rw [hg];exact (below_size (by repeat first|exact HB.out|apply bwA|apply bwN|apply bw1)) : w.heap.size ≤ gb376));have n3_:=aMk ((by rw [hg];exact (below_size (by repeat first|exact HB.out|apply bwA|apply bwN|apply bw1)) : w.heap.size ≤ gb376));clear HB;have HB:=n0_;have BK376:=n1_;have GW376:=n2_;have GE376:=n3_;clear n0_ n1_ n2_ n3_;clear hb hbox hg)|((with_reducible refine gate_dst (N:=3) rfl ?_);refine box_event ?hg (N:=3) ?hd (cs:=#[.int .i64 a1_0,.int .i64 a1_1,.int .i64 a1_2,.int .i64 a1_3,.int .i64 a1_4,.bool a1_5]) (t:=33) ?hr ?_;(case hd => rfl);(case hg => rfl);(case hr => first|(go_simp;done)|(go_simp;rfl));intro gb377 hg w32 hbox hb;have n0_:=aMk (blk_below (g:=gb376) (o:=.cells #[.int .i64 a0_0,.int .i64 a0_1,.int .i64 a0_2,.int .i64 a0_3,.int .i64 a0_4,.bool a0_5] 33 (0,0)) (by (with_reducible repeat (first|refine bDn ?_ _|refine bDr ?_|refine bAl ?_ _));exact BK376.out) hb);have n1_:=aMk (below_step (by repeat (first|(with_reducible first|exact HB.out|apply bwA|apply bwN|apply bw1|refine below_set ?_ GE376.out)|exact HB.out)) hb);have n2_:=aMk (hbox);have n3_:=aMk ((by rw [hg];exact (below_size (by repeat (first|(with_reducible first|exact HB.out|apply bwA|apply bwN|apply bw1|refine below_set ?_ GE376.out)|exact HB.out))) : w.heap.size ≤ gb377));have n4_:=aMk ((by rw [hg];exact (below_size (by repeat (first|(with_reducible first|exact HB.out|apply bwA|apply bwN|apply bw1|refine below_set ?_ GE376.out)|exact HB.out))) : w.heap.size ≤ gb377));have n5_:=aMk ((by rw [hg];exact Nat.ne_of_lt (blk_lt (g:=gb376) (o:=.cells #[.int .i64 a0_0,.int .i64 a0_1,.int .i64 a0_2,.int .i64 a0_3,.int .i64 a0_4,.bool a0_5] 33 (0,0)) (by (with_reducible repeat (first|refine bDn ?_ _|refine bDr ?_|refine bAl ?_ _));exact BK376.out)) : gb376 ≠ gb377));have n6_:=aMk ((by rw [hg];exact Nat.ne_of_gt (blk_lt (g:=gb376) (o:=.cells #[.int .i64 a0_0,.int .i64 a0_1,.int .i64 a0_2,.int .i64 a0_3,.int .i64 a0_4,.bool a0_5] 33 (0,0)) (by (with_reducible repeat (first|refine bDn ?_ _|refine bDr ?_|refine bAl ?_ _));exact BK376.out)) : gb377 ≠ gb376));clear BK376;clear HB;have BK376:=n0_;have HB:=n1_;have BK377:=n2_;have GW377:=n3_;have GE377:=n4_;have NB376_377:=n5_;have NB377_376:=n6_;clear n0_ n1_ n2_ n3_ n4_ n5_ n6_;clear hb hbox hg;have hnb33:=NB376_377.out;have hnc33:=NB377_376.out;have hcz34_0 : w32.cell? ⟨gb376,0,none⟩ = some (.int .i64 a0_0):=(bCe BK376.out 0).trans rfl;have hcz34_1 : w32.cell? ⟨gb376,1,none⟩ = some (.int .i64 a0_1):=(bCe BK376.out 1).trans rfl;have hcz34_2 : w32.cell? ⟨gb376,2,none⟩ = some (.int .i64 a0_2):=(bCe BK376.out 2).trans rfl;have hcz34_3 : w32.cell? ⟨gb376,3,none⟩ = some (.int .i64 a0_3):=(bCe BK376.out 3).trans rfl;have hcz34_4 : w32.cell? ⟨gb376,4,none⟩ = some (.int .i64 a0_4):=(bCe BK376.out 4).trans rfl;have hcz34_5 : w32.cell? ⟨gb376,5,none⟩ = some (.bool a0_5):=(bCe BK376.out 5).trans rfl;have hfz34_0:=bFr BK376.out 0;have hfz34_1:=bFr BK376.out 1;have hfz34_2:=bFr BK376.out 2;have hfz34_3:=bFr BK376.out 3;have hfz34_4:=bFr BK376.out 4;have hfz34_5:=bFr BK376.out 5;have hcz35_0 : w32.cell? ⟨gb377,0,none⟩ = some (.int .i64 a1_0):=(bCe BK377.out 0).trans rfl;have hcz35_1 : w32.cell? ⟨gb377,1,none⟩ = some (.int .i64 a1_1):=(bCe BK377.out 1).trans rfl;have hcz35_2 : w32.cell? ⟨gb377,2,none⟩ = some (.int .i64 a1_2):=(bCe BK377.out 2).trans rfl;have hcz35_3 : w32.cell? ⟨gb377,3,none⟩ = some (.int .i64 a1_3):=(bCe BK377.out 3).trans rfl;have hcz35_4 : w32.cell? ⟨gb377,4,none⟩ = some (.int .i64 a1_4):=(bCe BK377.out 4).trans rfl;have hcz35_5 : w32.cell? ⟨gb377,5,none⟩ = some (.bool a1_5):=(bCe BK377.out 5).trans rfl;have hfz35_0:=bFr BK377.out 0;have hfz35_1:=bFr BK377.out 1;have hfz35_2:=bFr BK377.out 2;have hfz35_3:=bFr BK377.out 3;have hfz35_4:=bFr BK377.out 4;have hfz35_5:=bFr BK377.out 5)|((with_reducible refine gate_callee (f:=28) rfl ?_);refine goesL_ (some 14) rfl rfl Tryd.func28 (by kernel_rfl) rfl #[.agg #[.int .i64 a0_1,.int .i64 a0_2],.agg #[.int .i64 a1_1,.int .i64 a1_2]] rfl (by (try simp only [List.map_toArray,List.map_cons,List.map_nil]);first | done | rfl|(simp only [List.length_drop,List.length_take];rfl)) ?_;(with_reducible refine (laws_eqNet.calls a0_1 a0_2 a1_1 a1_2 true _ A4.out).mono ?_);rintro e w36 ⟨rfl,hb⟩;refine ⟨_,rfl,?_⟩;have n0_:=aMk (blk_below (g:=gb376) (o:=.cells #[.int .i64 a0_0,.int .i64 a0_1,.int .i64 a0_2,.int .i64 a0_3,.int .i64 a0_4,.bool a0_5] 33 (0,0)) (by (with_reducible repeat (first|refine bDn ?_ _|refine bDr ?_|refine bAl ?_ _));exact BK376.out) hb);have n1_:=aMk (blk_below (g:=gb377) (o:=.cells #[.int .i64 a1_0,.int .i64 a1_1,.int .i64 a1_2,.int .i64 a1_3,.int .i64 a1_4,.bool a1_5] 33 (0,0)) (by (with_reducible repeat (first|refine bDn ?_ _|refine bDr ?_|refine bAl ?_ _));exact BK377.out) hb);have n2_:=aMk (below_step (by repeat (first|(with_reducible first|exact HB.out|apply bwA|apply bwN|apply bw1|refine below_set ?_ GE376.out|refine below_set ?_ GE377.out)|exact HB.out)) hb);clear BK376;clear BK377;clear HB;have BK376:=n0_;have BK377:=n1_;have HB:=n2_;clear n0_ n1_ n2_;(try clear hb);(try clear hb2);(try clear hk);(try clear hi);have hcz37_0 : w36.cell? ⟨gb376,0,none⟩ = some (.int .i64 a0_0):=(bCe BK376.out 0).trans rfl;have hcz37_1 : w36.cell? ⟨gb376,1,none⟩ = some (.int .i64 a0_1):=(bCe BK376.out 1).trans rfl;have hcz37_2 : w36.cell? ⟨gb376,2,none⟩ = some (.int .i64 a0_2):=(bCe BK376.out 2).trans rfl;have hcz37_3 : w36.cell? ⟨gb376,3,none⟩ = some (.int .i64 a0_3):=(bCe BK376.out 3).trans rfl;have hcz37_4 : w36.cell? ⟨gb376,4,none⟩ = some (.int .i64 a0_4):=(bCe BK376.out 4).trans rfl;have hcz37_5 : w36.cell? ⟨gb376,5,none⟩ = some (.bool a0_5):=(bCe BK376.out 5).trans rfl;have hfz37_0:=bFr BK376.out 0;have hfz37_1:=bFr BK376.out 1;have hfz37_2:=bFr BK376.out 2;have hfz37_3:=bFr BK376.out 3;have hfz37_4:=bFr BK376.out 4;have hfz37_5:=bFr BK376.out 5;have hcz38_0 : w36.cell? ⟨gb377,0,none⟩ = some (.int .i64 a1_0):=(bCe BK377.out 0).trans rfl;have hcz38_1 : w36.cell? ⟨gb377,1,none⟩ = some (.int .i64 a1_1):=(bCe BK377.out 1).trans rfl;have hcz38_2 : w36.cell? ⟨gb377,2,none⟩ = some (.int .i64 a1_2):=(bCe BK377.out 2).trans rfl;have hcz38_3 : w36.cell? ⟨gb377,3,none⟩ = some (.int .i64 a1_3):=(bCe BK377.out 3).trans rfl;have hcz38_4 : w36.cell? ⟨gb377,4,none⟩ = some (.int .i64 a1_4):=(bCe BK377.out 4).trans rfl;have hcz38_5 : w36.cell? ⟨gb377,5,none⟩ = some (.bool a1_5):=(bCe BK377.out 5).trans rfl;have hfz38_0:=bFr BK377.out 0;have hfz38_1:=bFr BK377.out 1;have hfz38_2:=bFr BK377.out 2;have hfz38_3:=bFr BK377.out 3;have hfz38_4:=bFr BK377.out 4;have hfz38_5:=bFr BK377.out 5)|((with_reducible refine gate_callee (f:=29) rfl ?_);refine goesL_ (some 20) rfl rfl Tryd.func29 (by kernel_rfl) rfl #[.agg #[.int .i64 a0_3,.int .i64 a0_4],.agg #[.int .i64 a1_3,.int .i64 a1_4]] rfl (by (try simp only [List.map_toArray,List.map_cons,List.map_nil]);first | done | rfl|(simp only [List.length_drop,List.length_take];rfl)) ?_;(with_reducible refine (laws_eqRange.calls a0_3 a0_4 a1_3 a1_4 false _ A6.out).mono ?_);rintro e w39 ⟨rfl,hb⟩;refine ⟨_,rfl,?_⟩;have n0_:=aMk (blk_below (g:=gb376) (o:=.cells #[.int .i64 a0_0,.int .i64 a0_1,.int .i64 a0_2,.int .i64 a0_3,.int .i64 a0_4,.bool a0_5] 33 (0,0)) (by (with_reducible repeat (first|refine bDn ?_ _|refine bDr ?_|refine bAl ?_ _));exact BK376.out) hb);have n1_:=aMk (blk_below (g:=gb377) (o:=.cells #[.int .i64 a1_0,.int .i64 a1_1,.int .i64 a1_2,.int .i64 a1_3,.int .i64 a1_4,.bool a1_5] 33 (0,0)) (by (with_reducible repeat (first|refine bDn ?_ _|refine bDr ?_|refine bAl ?_ _));exact BK377.out) hb);have n2_:=aMk (below_step (by repeat (first|(with_reducible first|exact HB.out|apply bwA|apply bwN|apply bw1|refine below_set ?_ GE376.out|refine below_set ?_ GE377.out)|exact HB.out)) hb);clear BK376;clear BK377;clear HB;have BK376:=n0_;have BK377:=n1_;have HB:=n2_;clear n0_ n1_ n2_;(try clear hb);(try clear hb2);(try clear hk);(try clear hi)))
    go_ret
    exact ⟨by first | rfl|(simp [errW_none,errW_some] <;> rfl)|(simp [*,errW_none,errW_some] <;> rfl),by repeat (first|(with_reducible first|exact HB.out|apply bwA|apply bwN|apply bw1|refine below_set ?_ GE376.out|refine below_set ?_ GE377.out)|exact HB.out)⟩
  ·replace c5:=Bool.eq_false_iff.mpr c5
   subst c5
   have H1 : (some false) = some r:=by rw [if_neg (show ¬ (false = true) by decide)] at H;exact H
   clear H
   have H:=H1
   clear H1
   obtain rfl:=Option.some.inj H
   go_enter Tryd.func10,Tryd.ntmps10
   go_wp2_with (first|((with_reducible refine gate_dst (N:=2) rfl ?_);refine box_event ?hg (N:=2) ?hd (cs:=#[.int .i64 a0_0,.int .i64 a0_1,.int .i64 a0_2,.int .i64 a0_3,.int .i64 a0_4,.bool a0_5]) (t:=33) ?hr ?_;(case hd => rfl);(case hg => rfl);(case hr => first|(go_simp;done)|(go_simp;rfl));intro gb376 hg w40 hbox hb;have n0_:=aMk (below_step (by repeat first|exact HB.out|apply bwA|apply bwN|apply bw1) hb);have n1_:=aMk (hbox);have n2_:=aMk ((by rw [hg];exact (below_size (by repeat first|exact HB.out|apply bwA|apply bwN|apply bw1)) : w.heap.size ≤ gb376));have n3_:=aMk ((by rw [hg];exact (below_size (by repeat first|exact HB.out|apply bwA|apply bwN|apply bw1)) : w.heap.size ≤ gb376));clear HB;have HB:=n0_;have BK376:=n1_;have GW376:=n2_;have GE376:=n3_;clear n0_ n1_ n2_ n3_;clear hb hbox hg)|((with_reducible refine gate_dst (N:=3) rfl ?_);refine box_event ?hg (N:=3) ?hd (cs:=#[.int .i64 a1_0,.int .i64 a1_1,.int .i64 a1_2,.int .i64 a1_3,.int .i64 a1_4,.bool a1_5]) (t:=33) ?hr ?_;(case hd => rfl);(case hg => rfl);(case hr => first|(go_simp;done)|(go_simp;rfl));intro gb377 hg w41 hbox hb;have n0_:=aMk (blk_below (g:=gb376) (o:=.cells #[.int .i64 a0_0,.int .i64 a0_1,.int .i64 a0_2,.int .i64 a0_3,.int .i64 a0_4,.bool a0_5] 33 (0,0)) (by (with_reducible repeat (first|refine bDn ?_ _|refine bDr ?_|refine bAl ?_ _));exact BK376.out) hb);have n1_:=aMk (below_step (by repeat (first|(with_reducible first|exact HB.out|apply bwA|apply bwN|apply bw1|refine below_set ?_ GE376.out)|exact HB.out)) hb);have n2_:=aMk (hbox);have n3_:=aMk ((by rw [hg];exact (below_size (by repeat (first|(with_reducible first|exact HB.out|apply bwA|apply bwN|apply bw1|refine below_set ?_ GE376.out)|exact HB.out))) : w.heap.size ≤ gb377));have n4_:=aMk ((by rw [hg];exact (below_size (by repeat (first|(with_reducible first|exact HB.out|apply bwA|apply bwN|apply bw1|refine below_set ?_ GE376.out)|exact HB.out))) : w.heap.size ≤ gb377));have n5_:=aMk ((by rw [hg];exact Nat.ne_of_lt (blk_lt (g:=gb376) (o:=.cells #[.int .i64 a0_0,.int .i64 a0_1,.int .i64 a0_2,.int .i64 a0_3,.int .i64 a0_4,.bool a0_5] 33 (0,0)) (by (with_reducible repeat (first|refine bDn ?_ _|refine bDr ?_|refine bAl ?_ _));exact BK376.out)) : gb376 ≠ gb377));have n6_:=aMk ((by rw [hg];exact Nat.ne_of_gt (blk_lt (g:=gb376) (o:=.cells #[.int .i64 a0_0,.int .i64 a0_1,.int .i64 a0_2,.int .i64 a0_3,.int .i64 a0_4,.bool a0_5] 33 (0,0)) (by (with_reducible repeat (first|refine bDn ?_ _|refine bDr ?_|refine bAl ?_ _));exact BK376.out)) : gb377 ≠ gb376));clear BK376;clear HB;have BK376:=n0_;have HB:=n1_;have BK377:=n2_;have GW377:=n3_;have GE377:=n4_;have NB376_377:=n5_;have NB377_376:=n6_;clear n0_ n1_ n2_ n3_ n4_ n5_ n6_;clear hb hbox hg;have hnb42:=NB376_377.out;have hnc42:=NB377_376.out;have hcz43_0 : w41.cell? ⟨gb376,0,none⟩ = some (.int .i64 a0_0):=(bCe BK376.out 0).trans rfl;have hcz43_1 : w41.cell? ⟨gb376,1,none⟩ = some (.int .i64 a0_1):=(bCe BK376.out 1).trans rfl;have hcz43_2 : w41.cell? ⟨gb376,2,none⟩ = some (.int .i64 a0_2):=(bCe BK376.out 2).trans rfl;have hcz43_3 : w41.cell? ⟨gb376,3,none⟩ = some (.int .i64 a0_3):=(bCe BK376.out 3).trans rfl;have hcz43_4 : w41.cell? ⟨gb376,4,none⟩ = some (.int .i64 a0_4):=(bCe BK376.out 4).trans rfl;have hcz43_5 : w41.cell? ⟨gb376,5,none⟩ = some (.bool a0_5):=(bCe BK376.out 5).trans rfl;have hfz43_0:=bFr BK376.out 0;have hfz43_1:=bFr BK376.out 1;have hfz43_2:=bFr BK376.out 2;have hfz43_3:=bFr BK376.out 3;have hfz43_4:=bFr BK376.out 4;have hfz43_5:=bFr BK376.out 5;have hcz44_0 : w41.cell? ⟨gb377,0,none⟩ = some (.int .i64 a1_0):=(bCe BK377.out 0).trans rfl;have hcz44_1 : w41.cell? ⟨gb377,1,none⟩ = some (.int .i64 a1_1):=(bCe BK377.out 1).trans rfl;have hcz44_2 : w41.cell? ⟨gb377,2,none⟩ = some (.int .i64 a1_2):=(bCe BK377.out 2).trans rfl;have hcz44_3 : w41.cell? ⟨gb377,3,none⟩ = some (.int .i64 a1_3):=(bCe BK377.out 3).trans rfl;have hcz44_4 : w41.cell? ⟨gb377,4,none⟩ = some (.int .i64 a1_4):=(bCe BK377.out 4).trans rfl;have hcz44_5 : w41.cell? ⟨gb377,5,none⟩ = some (.bool a1_5):=(bCe BK377.out 5).trans rfl;have hfz44_0:=bFr BK377.out 0;have hfz44_1:=bFr BK377.out 1;have hfz44_2:=bFr BK377.out 2;have hfz44_3:=bFr BK377.out 3;have hfz44_4:=bFr BK377.out 4;have hfz44_5:=bFr BK377.out 5)|((with_reducible refine gate_callee (f:=28) rfl ?_);refine goesL_ (some 14) rfl rfl Tryd.func28 (by kernel_rfl) rfl #[.agg #[.int .i64 a0_1,.int .i64 a0_2],.agg #[.int .i64 a1_1,.int .i64 a1_2]] rfl (by (try simp only [List.map_toArray,List.map_cons,List.map_nil]);first | done | rfl|(simp only [List.length_drop,List.length_take];rfl)) ?_;(with_reducible refine (laws_eqNet.calls a0_1 a0_2 a1_1 a1_2 false _ A4.out).mono ?_);rintro e w45 ⟨rfl,hb⟩;refine ⟨_,rfl,?_⟩;have n0_:=aMk (blk_below (g:=gb376) (o:=.cells #[.int .i64 a0_0,.int .i64 a0_1,.int .i64 a0_2,.int .i64 a0_3,.int .i64 a0_4,.bool a0_5] 33 (0,0)) (by (with_reducible repeat (first|refine bDn ?_ _|refine bDr ?_|refine bAl ?_ _));exact BK376.out) hb);have n1_:=aMk (blk_below (g:=gb377) (o:=.cells #[.int .i64 a1_0,.int .i64 a1_1,.int .i64 a1_2,.int .i64 a1_3,.int .i64 a1_4,.bool a1_5] 33 (0,0)) (by (with_reducible repeat (first|refine bDn ?_ _|refine bDr ?_|refine bAl ?_ _));exact BK377.out) hb);have n2_:=aMk (below_step (by repeat (first|(with_reducible first|exact HB.out|apply bwA|apply bwN|apply bw1|refine below_set ?_ GE376.out|refine below_set ?_ GE377.out)|exact HB.out)) hb);clear BK376;clear BK377;clear HB;have BK376:=n0_;have BK377:=n1_;have HB:=n2_;clear n0_ n1_ n2_;(try clear hb);(try clear hb2);(try clear hk);(try clear hi)))
   go_ret
   exact ⟨by first | rfl|(simp [errW_none,errW_some] <;> rfl)|(simp [*,errW_none,errW_some] <;> rfl),by repeat (first|(with_reducible first|exact HB.out|apply bwA|apply bwN|apply bw1|refine below_set ?_ GE376.out|refine below_set ?_ GE377.out)|exact HB.out)⟩
 ·rw [if_neg c3] at H
  have c3b0 : (a0_0 == a1_0) = false:=beq_eq_false_iff_ne.mpr c3
  have c3b1 : (a0_0 != a1_0) = true:=bne_iff_ne.mpr c3
  obtain rfl:=Option.some.inj H
  go_enter Tryd.func10,Tryd.ntmps10
  go_wp2_with (first|((with_reducible refine gate_dst (N:=2) rfl ?_);refine box_event ?hg (N:=2) ?hd (cs:=#[.int .i64 a0_0,.int .i64 a0_1,.int .i64 a0_2,.int .i64 a0_3,.int .i64 a0_4,.bool a0_5]) (t:=33) ?hr ?_;(case hd => rfl);(case hg => rfl);(case hr => first|(go_simp;done)|(go_simp;rfl));intro gb376 hg w46 hbox hb;have n0_:=aMk (below_step (by repeat first|exact HB.out|apply bwA|apply bwN|apply bw1) hb);have n1_:=aMk (hbox);have n2_:=aMk ((by rw [hg];exact (below_size (by repeat first|exact HB.out|apply bwA|apply bwN|apply bw1)) : w.heap.size ≤ gb376));have n3_:=aMk ((by rw [hg];exact (below_size (by repeat first|exact HB.out|apply bwA|apply bwN|apply bw1)) : w.heap.size ≤ gb376));clear HB;have HB:=n0_;have BK376:=n1_;have GW376:=n2_;have GE376:=n3_;clear n0_ n1_ n2_ n3_;clear hb hbox hg)|((with_reducible refine gate_dst (N:=3) rfl ?_);refine box_event ?hg (N:=3) ?hd (cs:=#[.int .i64 a1_0,.int .i64 a1_1,.int .i64 a1_2,.int .i64 a1_3,.int .i64 a1_4,.bool a1_5]) (t:=33) ?hr ?_;(case hd => rfl);(case hg => rfl);(case hr => first|(go_simp;done)|(go_simp;rfl));intro gb377 hg w47 hbox hb;have n0_:=aMk (blk_below (g:=gb376) (o:=.cells #[.int .i64 a0_0,.int .i64 a0_1,.int .i64 a0_2,.int .i64 a0_3,.int .i64 a0_4,.bool a0_5] 33 (0,0)) (by (with_reducible repeat (first|refine bDn ?_ _|refine bDr ?_|refine bAl ?_ _));exact BK376.out) hb);have n1_:=aMk (below_step (by repeat (first|(with_reducible first|exact HB.out|apply bwA|apply bwN|apply bw1|refine below_set ?_ GE376.out)|exact HB.out)) hb);have n2_:=aMk (hbox);have n3_:=aMk ((by rw [hg];exact (below_size (by repeat (first|(with_reducible first|exact HB.out|apply bwA|apply bwN|apply bw1|refine below_set ?_ GE376.out)|exact HB.out))) : w.heap.size ≤ gb377));have n4_:=aMk ((by rw [hg];exact (below_size (by repeat (first|(with_reducible first|exact HB.out|apply bwA|apply bwN|apply bw1|refine below_set ?_ GE376.out)|exact HB.out))) : w.heap.size ≤ gb377));have n5_:=aMk ((by rw [hg];exact Nat.ne_of_lt (blk_lt (g:=gb376) (o:=.cells #[.int .i64 a0_0,.int .i64 a0_1,.int .i64 a0_2,.int .i64 a0_3,.int .i64 a0_4,.bool a0_5] 33 (0,0)) (by (with_reducible repeat (first|refine bDn ?_ _|refine bDr ?_|refine bAl ?_ _));exact BK376.out)) : gb376 ≠ gb377));have n6_:=aMk ((by rw [hg];exact Nat.ne_of_gt (blk_lt (g:=gb376) (o:=.cells #[.int .i64 a0_0,.int .i64 a0_1,.int .i64 a0_2,.int .i64 a0_3,.int .i64 a0_4,.bool a0_5] 33 (0,0)) (by (with_reducible repeat (first|refine bDn ?_ _|refine bDr ?_|refine bAl ?_ _));exact BK376.out)) : gb377 ≠ gb376));clear BK376;clear HB;have BK376:=n0_;have HB:=n1_;have BK377:=n2_;have GW377:=n3_;have GE377:=n4_;have NB376_377:=n5_;have NB377_376:=n6_;clear n0_ n1_ n2_ n3_ n4_ n5_ n6_;clear hb hbox hg;have hnb48:=NB376_377.out;have hnc48:=NB377_376.out;have hcz49_0 : w47.cell? ⟨gb376,0,none⟩ = some (.int .i64 a0_0):=(bCe BK376.out 0).trans rfl;have hcz49_1 : w47.cell? ⟨gb376,1,none⟩ = some (.int .i64 a0_1):=(bCe BK376.out 1).trans rfl;have hcz49_2 : w47.cell? ⟨gb376,2,none⟩ = some (.int .i64 a0_2):=(bCe BK376.out 2).trans rfl;have hcz49_3 : w47.cell? ⟨gb376,3,none⟩ = some (.int .i64 a0_3):=(bCe BK376.out 3).trans rfl;have hcz49_4 : w47.cell? ⟨gb376,4,none⟩ = some (.int .i64 a0_4):=(bCe BK376.out 4).trans rfl;have hcz49_5 : w47.cell? ⟨gb376,5,none⟩ = some (.bool a0_5):=(bCe BK376.out 5).trans rfl;have hfz49_0:=bFr BK376.out 0;have hfz49_1:=bFr BK376.out 1;have hfz49_2:=bFr BK376.out 2;have hfz49_3:=bFr BK376.out 3;have hfz49_4:=bFr BK376.out 4;have hfz49_5:=bFr BK376.out 5;have hcz50_0 : w47.cell? ⟨gb377,0,none⟩ = some (.int .i64 a1_0):=(bCe BK377.out 0).trans rfl;have hcz50_1 : w47.cell? ⟨gb377,1,none⟩ = some (.int .i64 a1_1):=(bCe BK377.out 1).trans rfl;have hcz50_2 : w47.cell? ⟨gb377,2,none⟩ = some (.int .i64 a1_2):=(bCe BK377.out 2).trans rfl;have hcz50_3 : w47.cell? ⟨gb377,3,none⟩ = some (.int .i64 a1_3):=(bCe BK377.out 3).trans rfl;have hcz50_4 : w47.cell? ⟨gb377,4,none⟩ = some (.int .i64 a1_4):=(bCe BK377.out 4).trans rfl;have hcz50_5 : w47.cell? ⟨gb377,5,none⟩ = some (.bool a1_5):=(bCe BK377.out 5).trans rfl;have hfz50_0:=bFr BK377.out 0;have hfz50_1:=bFr BK377.out 1;have hfz50_2:=bFr BK377.out 2;have hfz50_3:=bFr BK377.out 3;have hfz50_4:=bFr BK377.out 4;have hfz50_5:=bFr BK377.out 5))
  go_ret
  exact ⟨by first | rfl|(simp [errW_none,errW_some] <;> rfl)|(simp [*,errW_none,errW_some] <;> rfl),by repeat (first|(with_reducible first|exact HB.out|apply bwA|apply bwN|apply bw1|refine below_set ?_ GE376.out|refine below_set ?_ GE377.out)|exact HB.out)⟩
end
section
/-! ### spec_l01In: function 52 -/
def spec_l01In.f (a0 : Int) (a1 : Int) (a2 : Int) : Option (Bool):=if a1 ≤ a0 then (some (decide (a0 ≤ a2))) else (some false)
set_option maxHeartbeats 8000000 in
set_option maxRecDepth 100000 in
theorem spec_l01In.calls (a0 : Int) (a1 : Int) (a2 : Int) (r : Bool) (w : World) (h : spec_l01In.f a0 a1 a2 = some r) :
  Calls Tryd.prog 52 #[.int .i64 a0,.int .i64 a1,.int .i64 a2] w fun e w' => e = .returned (.bool r) ∧ Drawn0 w w':=by
 have H : (if a1 ≤ a0 then (some (decide (a0 ≤ a2))) else (some false)) = some r:=h
 clear h
 by_cases c4 : a1 ≤ a0
 ·rw [if_pos c4] at H
  have c4b0 : decide (a1 ≤ a0) = true:=decide_eq_true c4
  clear c4
  obtain rfl:=Option.some.inj H
  go_enter Tryd.func52,Tryd.ntmps52
  go_wp2
  go_ret
  exact ⟨by first | rfl|(simp;done)|(simp [*];done)|(simp [ne_nil_b];done)|(simp [ne_nil_b, *];done),by repeat (first|exact Drawn0.refl _|apply Drawn0.step)⟩
 ·rw [if_neg c4] at H
  have c4b0 : decide (a1 ≤ a0) = false:=decide_eq_false c4
  clear c4
  obtain rfl:=Option.some.inj H
  go_enter Tryd.func52,Tryd.ntmps52
  go_wp2
  go_ret
  exact ⟨by first | rfl|(simp;done)|(simp [*];done)|(simp [ne_nil_b];done)|(simp [ne_nil_b, *];done),by repeat (first|exact Drawn0.refl _|apply Drawn0.step)⟩
end
section
/-! ### spec_l01Ip: function 51 -/
def spec_l01Ip.f (a0 : Int) : Option (Bool):=(spec_l01In.f a0 0 4294967295).bind fun t101 => (some t101)
set_option maxHeartbeats 8000000 in
set_option maxRecDepth 100000 in
theorem spec_l01Ip.calls (a0 : Int) (r : Bool) (w : World) (h : spec_l01Ip.f a0 = some r) :
  Calls Tryd.prog 51 #[.int .i64 a0] w fun e w' => e = .returned (.bool r) ∧ Drawn0 w w':=by
 have H : ((spec_l01In.f a0 0 4294967295).bind fun t101 => (some t101)) = some r:=h
 clear h
 replace H:=Option.bind_eq_some_iff.mp H
 obtain ⟨t101,A20,H⟩:=H
 replace H : (some t101) = some r:=H
 have A2:=aMk A20
 clear A20
 obtain rfl:=Option.some.inj H
 go_enter Tryd.func51,Tryd.ntmps51
 go_wp2_with (first|((with_reducible refine gate_callee (f:=52) rfl ?_);refine goesL_ (some 4) rfl rfl Tryd.func52 (by kernel_rfl) rfl #[.int .i64 a0,.int .i64 0,.int .i64 4294967295] rfl (by (try simp only [List.map_toArray,List.map_cons,List.map_nil]);first | done | rfl|(simp only [List.length_drop,List.length_take];rfl)) ?_;(with_reducible refine (spec_l01In.calls a0 0 4294967295 t101 _ A2.out).mono ?_);rintro e w' ⟨rfl,⟨nd,rfl⟩⟩;refine ⟨_,rfl,?_⟩))
 go_ret
 exact ⟨by first | rfl|(simp;done)|(simp [*];done)|(simp [ne_nil_b];done)|(simp [ne_nil_b, *];done),by repeat (first|exact Drawn0.refl _|apply Drawn0.step)⟩
end
section
/-! ### spec_NetOK: function 30 -/
def spec_NetOK.f (a0_0 : Int) (a0_1 : Int) : Option (Bool):=(spec_l01Ip.f a0_0).bind fun t103 => (if t103 = true then ((spec_l01In.f a0_1 0 32).bind fun t104 => (if t104 = true then (if 0 ≤ (IntKind.u64.wrap (wrap64 (32 - a0_1))) then (some ((Go.bits .and .i64 a0_0 (wrap64 ((shl .i64 1 (IntKind.u64.wrap (wrap64 (32 - a0_1)))) - 1))) == 0)) else (none)) else (some false))) else (some false))
set_option maxHeartbeats 8000000 in
set_option maxRecDepth 100000 in
theorem spec_NetOK.calls (a0_0 : Int) (a0_1 : Int) (r : Bool) (w : World) (h : spec_NetOK.f a0_0 a0_1 = some r) :
  Calls Tryd.prog 30 #[.agg #[.int .i64 a0_0,.int .i64 a0_1]] w fun e w' => e = .returned (.bool r) ∧ Below w.heap.size w w':=by
 have hu30:=Tryd.underlying30
 have HB:=aMk (Below.refl w.heap.size w)
 have H : ((spec_l01Ip.f a0_0).bind fun t103 => (if t103 = true then ((spec_l01In.f a0_1 0 32).bind fun t104 => (if t104 = true then (if 0 ≤ (IntKind.u64.wrap (wrap64 (32 - a0_1))) then (some ((Go.bits .and .i64 a0_0 (wrap64 ((shl .i64 1 (IntKind.u64.wrap (wrap64 (32 - a0_1)))) - 1))) == 0)) else (none)) else (some false))) else (some false))) = some r:=h
 clear h
 replace H:=Option.bind_eq_some_iff.mp H
 obtain ⟨t103,A20,H⟩:=H
 replace H : (if t103 = true then ((spec_l01In.f a0_1 0 32).bind fun t104 => (if t104 = true then (if 0 ≤ (IntKind.u64.wrap (wrap64 (32 - a0_1))) then (some ((Go.bits .and .i64 a0_0 (wrap64 ((shl .i64 1 (IntKind.u64.wrap (wrap64 (32 - a0_1)))) - 1))) == 0)) else (none)) else (some false))) else (some false)) = some r:=H
 have A2:=aMk A20
 clear A20
 by_cases c3 : t103 = true
 ·subst c3
  have H1 : ((spec_l01In.f a0_1 0 32).bind fun t104 => (if t104 = true then (if 0 ≤ (IntKind.u64.wrap (wrap64 (32 - a0_1))) then (some ((Go.bits .and .i64 a0_0 (wrap64 ((shl .i64 1 (IntKind.u64.wrap (wrap64 (32 - a0_1)))) - 1))) == 0)) else (none)) else (some false))) = some r:=by rw [if_pos rfl] at H;exact H
  clear H
  have H:=H1
  clear H1
  replace H:=Option.bind_eq_some_iff.mp H
  obtain ⟨t104,A40,H⟩:=H
  replace H : (if t104 = true then (if 0 ≤ (IntKind.u64.wrap (wrap64 (32 - a0_1))) then (some ((Go.bits .and .i64 a0_0 (wrap64 ((shl .i64 1 (IntKind.u64.wrap (wrap64 (32 - a0_1)))) - 1))) == 0)) else (none)) else (some false)) = some r:=H
  have A4:=aMk A40
  clear A40
  by_cases c5 : t104 = true
  ·subst c5
   have H1 : (if 0 ≤ (IntKind.u64.wrap (wrap64 (32 - a0_1))) then (some ((Go.bits .and .i64 a0_0 (wrap64 ((shl .i64 1 (IntKind.u64.wrap (wrap64 (32 - a0_1)))) - 1))) == 0)) else (none)) = some r:=by rw [if_pos rfl] at H;exact H
   clear H
   have H:=H1
   clear H1
   obtain ⟨ji6,hji6⟩ : ∃ j_ : Int,(IntKind.u64.wrap (wrap64 (32 - a0_1))) = j_:=⟨_,rfl⟩
   replace H : (if 0 ≤ (ji6) then (some ((Go.bits .and .i64 a0_0 (wrap64 ((shl .i64 1 (ji6)) - 1))) == 0)) else (none)) = some r:=by first|(rw [hji6] at H;exact H)|(simp only [hji6] at H ⊢;exact H)
   (try rw [hji6] at A2)
   (try rw [hji6] at A4)
   by_cases c7 : 0 ≤ (ji6)
   ·rw [if_pos c7] at H
    have c7b0:=eq_true c7
    have c7b1 : decide (0 ≤ (ji6)) = true:=decide_eq_true c7
    clear c7
    obtain ⟨ji8,hji8⟩ : ∃ j_ : Int,(shl .i64 1 (ji6)) = j_:=⟨_,rfl⟩
    replace H : (some ((Go.bits .and .i64 a0_0 (wrap64 ((ji8) - 1))) == 0)) = some r:=by first|(rw [hji8] at H;exact H)|(simp only [hji8] at H ⊢;exact H)
    (try rw [hji8] at A2)
    (try rw [hji8] at A4)
    have hji8_ : (IntKind.i64.wrap (1 * 2 ^ min (ji6).toNat 64)) = ji8:=hji8
    have hji8z : (ji6) ≤ 64 → (IntKind.i64.wrap (1 * 2 ^ (ji6).toNat)) = ji8:=shl_small hji8
    have hji8u : (IntKind.i64.wrap (2 ^ min (ji6).toNat 64)) = ji8:=by have h_:=hji8_;rw [Int.one_mul] at h_;exact h_
    have hji8v : (ji6) ≤ 64 → (IntKind.i64.wrap (2 ^ (ji6).toNat)) = ji8:=fun hle_ => by have h_:=hji8z hle_;rw [Int.one_mul] at h_;exact h_
    have hji8y : (wrap64 (1 * 2 ^ min (ji6).toNat 64)) = ji8:=(i64_w _).symm.trans hji8_
    have hji8x : (ji6) ≤ 64 → (wrap64 (1 * 2 ^ (ji6).toNat)) = ji8:=fun h_ => (i64_w _).symm.trans (hji8z h_)
    obtain rfl:=Option.some.inj H
    go_enter Tryd.func30,Tryd.ntmps30
    go_wp2_with (first|((with_reducible refine gate_dst (N:=1) rfl ?_);refine box_event ?hg (N:=1) ?hd (cs:=#[.int .i64 a0_0,.int .i64 a0_1]) (t:=30) ?hr ?_;(case hd => rfl);(case hg => rfl);(case hr => first|(go_simp;done)|(go_simp;rfl));intro gb102 hg w9 hbox hb;have n0_:=aMk (below_step (by repeat first|exact HB.out|apply bwA|apply bwN|apply bw1) hb);have n1_:=aMk (hbox);have n2_:=aMk ((by rw [hg];exact (below_size (by repeat first|exact HB.out|apply bwA|apply bwN|apply bw1)) : w.heap.size ≤ gb102));have n3_:=aMk ((by rw [hg];exact (below_size (by repeat first|exact HB.out|apply bwA|apply bwN|apply bw1)) : w.heap.size ≤ gb102));clear HB;have HB:=n0_;have BK102:=n1_;have GW102:=n2_;have GE102:=n3_;clear n0_ n1_ n2_ n3_;clear hb hbox hg;have hcz10_0 : w9.cell? ⟨gb102,0,none⟩ = some (.int .i64 a0_0):=(bCe BK102.out 0).trans rfl;have hcz10_1 : w9.cell? ⟨gb102,1,none⟩ = some (.int .i64 a0_1):=(bCe BK102.out 1).trans rfl;have hfz10_0:=bFr BK102.out 0;have hfz10_1:=bFr BK102.out 1)|((with_reducible refine gate_callee (f:=51) rfl ?_);refine goesL_ (some 5) rfl rfl Tryd.func51 (by kernel_rfl) rfl #[.int .i64 a0_0] rfl (by (try simp only [List.map_toArray,List.map_cons,List.map_nil]);first | done | rfl|(simp only [List.length_drop,List.length_take];rfl)) ?_;(with_reducible refine (spec_l01Ip.calls a0_0 true _ A2.out).mono ?_);rintro e w' ⟨rfl,⟨nd,rfl⟩⟩;refine ⟨_,rfl,?_⟩)|(go_at_call 52;(with_reducible refine (spec_l01In.calls a0_1 0 32 true _ A4.out).mono ?_);rintro e w' ⟨rfl,⟨nd,rfl⟩⟩))
    go_ret
    exact ⟨by first | rfl|(simp [errW_none,errW_some] <;> rfl)|(simp only [← hji6,← hji8];first | rfl|(simp [errW_none,errW_some] <;> rfl))|(simp [*,errW_none,errW_some] <;> rfl),by repeat (first|(with_reducible first|exact HB.out|apply bwA|apply bwN|apply bw1|refine below_set ?_ GE102.out)|exact HB.out)⟩
   ·rw [if_neg c7] at H
    exact absurd H (by simp)
  ·replace c5:=Bool.eq_false_iff.mpr c5
   subst c5
   have H1 : (some false) = some r:=by rw [if_neg (show ¬ (false = true) by decide)] at H;exact H
   clear H
   have H:=H1
   clear H1
   obtain rfl:=Option.some.inj H
   go_enter Tryd.func30,Tryd.ntmps30
   go_wp2_with (first|((with_reducible refine gate_dst (N:=1) rfl ?_);refine box_event ?hg (N:=1) ?hd (cs:=#[.int .i64 a0_0,.int .i64 a0_1]) (t:=30) ?hr ?_;(case hd => rfl);(case hg => rfl);(case hr => first|(go_simp;done)|(go_simp;rfl));intro gb102 hg w11 hbox hb;have n0_:=aMk (below_step (by repeat first|exact HB.out|apply bwA|apply bwN|apply bw1) hb);have n1_:=aMk (hbox);have n2_:=aMk ((by rw [hg];exact (below_size (by repeat first|exact HB.out|apply bwA|apply bwN|apply bw1)) : w.heap.size ≤ gb102));have n3_:=aMk ((by rw [hg];exact (below_size (by repeat first|exact HB.out|apply bwA|apply bwN|apply bw1)) : w.heap.size ≤ gb102));clear HB;have HB:=n0_;have BK102:=n1_;have GW102:=n2_;have GE102:=n3_;clear n0_ n1_ n2_ n3_;clear hb hbox hg;have hcz12_0 : w11.cell? ⟨gb102,0,none⟩ = some (.int .i64 a0_0):=(bCe BK102.out 0).trans rfl;have hcz12_1 : w11.cell? ⟨gb102,1,none⟩ = some (.int .i64 a0_1):=(bCe BK102.out 1).trans rfl;have hfz12_0:=bFr BK102.out 0;have hfz12_1:=bFr BK102.out 1)|((with_reducible refine gate_callee (f:=51) rfl ?_);refine goesL_ (some 5) rfl rfl Tryd.func51 (by kernel_rfl) rfl #[.int .i64 a0_0] rfl (by (try simp only [List.map_toArray,List.map_cons,List.map_nil]);first | done | rfl|(simp only [List.length_drop,List.length_take];rfl)) ?_;(with_reducible refine (spec_l01Ip.calls a0_0 true _ A2.out).mono ?_);rintro e w' ⟨rfl,⟨nd,rfl⟩⟩;refine ⟨_,rfl,?_⟩)|(go_at_call 52;(with_reducible refine (spec_l01In.calls a0_1 0 32 false _ A4.out).mono ?_);rintro e w' ⟨rfl,⟨nd,rfl⟩⟩))
   go_ret
   exact ⟨by first | rfl|(simp [errW_none,errW_some] <;> rfl)|(simp [*,errW_none,errW_some] <;> rfl),by repeat (first|(with_reducible first|exact HB.out|apply bwA|apply bwN|apply bw1|refine below_set ?_ GE102.out)|exact HB.out)⟩
 ·replace c3:=Bool.eq_false_iff.mpr c3
  subst c3
  have H1 : (some false) = some r:=by rw [if_neg (show ¬ (false = true) by decide)] at H;exact H
  clear H
  have H:=H1
  clear H1
  obtain rfl:=Option.some.inj H
  go_enter Tryd.func30,Tryd.ntmps30
  go_wp2_with (first|((with_reducible refine gate_dst (N:=1) rfl ?_);refine box_event ?hg (N:=1) ?hd (cs:=#[.int .i64 a0_0,.int .i64 a0_1]) (t:=30) ?hr ?_;(case hd => rfl);(case hg => rfl);(case hr => first|(go_simp;done)|(go_simp;rfl));intro gb102 hg w13 hbox hb;have n0_:=aMk (below_step (by repeat first|exact HB.out|apply bwA|apply bwN|apply bw1) hb);have n1_:=aMk (hbox);have n2_:=aMk ((by rw [hg];exact (below_size (by repeat first|exact HB.out|apply bwA|apply bwN|apply bw1)) : w.heap.size ≤ gb102));have n3_:=aMk ((by rw [hg];exact (below_size (by repeat first|exact HB.out|apply bwA|apply bwN|apply bw1)) : w.heap.size ≤ gb102));clear HB;have HB:=n0_;have BK102:=n1_;have GW102:=n2_;have GE102:=n3_;clear n0_ n1_ n2_ n3_;clear hb hbox hg;have hcz14_0 : w13.cell? ⟨gb102,0,none⟩ = some (.int .i64 a0_0):=(bCe BK102.out 0).trans rfl;have hcz14_1 : w13.cell? ⟨gb102,1,none⟩ = some (.int .i64 a0_1):=(bCe BK102.out 1).trans rfl;have hfz14_0:=bFr BK102.out 0;have hfz14_1:=bFr BK102.out 1)|((with_reducible refine gate_callee (f:=51) rfl ?_);refine goesL_ (some 5) rfl rfl Tryd.func51 (by kernel_rfl) rfl #[.int .i64 a0_0] rfl (by (try simp only [List.map_toArray,List.map_cons,List.map_nil]);first | done | rfl|(simp only [List.length_drop,List.length_take];rfl)) ?_;(with_reducible refine (spec_l01Ip.calls a0_0 false _ A2.out).mono ?_);rintro e w' ⟨rfl,⟨nd,rfl⟩⟩;refine ⟨_,rfl,?_⟩))
  go_ret
  exact ⟨by first | rfl|(simp [errW_none,errW_some] <;> rfl)|(simp [*,errW_none,errW_some] <;> rfl),by repeat (first|(with_reducible first|exact HB.out|apply bwA|apply bwN|apply bw1|refine below_set ?_ GE102.out)|exact HB.out)⟩
end
section
/-! ### spec_l07Range: function 31 -/
def spec_l07Range.f (a0_0 : Int) (a0_1 : Int) : Option (Bool):=(spec_l01In.f a0_0 0 65535).bind fun t106 => (if t106 = true then ((spec_l01In.f a0_1 a0_0 65535).bind fun t107 => (some t107)) else (some false))
set_option maxHeartbeats 8000000 in
set_option maxRecDepth 100000 in
theorem spec_l07Range.calls (a0_0 : Int) (a0_1 : Int) (r : Bool) (w : World) (h : spec_l07Range.f a0_0 a0_1 = some r) :
  Calls Tryd.prog 31 #[.agg #[.int .i64 a0_0,.int .i64 a0_1]] w fun e w' => e = .returned (.bool r) ∧ Below w.heap.size w w':=by
 have hu31:=Tryd.underlying31
 have HB:=aMk (Below.refl w.heap.size w)
 have H : ((spec_l01In.f a0_0 0 65535).bind fun t106 => (if t106 = true then ((spec_l01In.f a0_1 a0_0 65535).bind fun t107 => (some t107)) else (some false))) = some r:=h
 clear h
 replace H:=Option.bind_eq_some_iff.mp H
 obtain ⟨t106,A20,H⟩:=H
 replace H : (if t106 = true then ((spec_l01In.f a0_1 a0_0 65535).bind fun t107 => (some t107)) else (some false)) = some r:=H
 have A2:=aMk A20
 clear A20
 by_cases c3 : t106 = true
 ·subst c3
  have H1 : ((spec_l01In.f a0_1 a0_0 65535).bind fun t107 => (some t107)) = some r:=by rw [if_pos rfl] at H;exact H
  clear H
  have H:=H1
  clear H1
  replace H:=Option.bind_eq_some_iff.mp H
  obtain ⟨t107,A40,H⟩:=H
  replace H : (some t107) = some r:=H
  have A4:=aMk A40
  clear A40
  obtain rfl:=Option.some.inj H
  go_enter Tryd.func31,Tryd.ntmps31
  go_wp2_with (first|((with_reducible refine gate_dst (N:=1) rfl ?_);refine box_event ?hg (N:=1) ?hd (cs:=#[.int .i64 a0_0,.int .i64 a0_1]) (t:=31) ?hr ?_;(case hd => rfl);(case hg => rfl);(case hr => first|(go_simp;done)|(go_simp;rfl));intro gb105 hg w5 hbox hb;have n0_:=aMk (below_step (by repeat first|exact HB.out|apply bwA|apply bwN|apply bw1) hb);have n1_:=aMk (hbox);have n2_:=aMk ((by rw [hg];exact (below_size (by repeat first|exact HB.out|apply bwA|apply bwN|apply bw1)) : w.heap.size ≤ gb105));have n3_:=aMk ((by rw [hg];exact (below_size (by repeat first|exact HB.out|apply bwA|apply bwN|apply bw1)) : w.heap.size ≤ gb105));clear HB;have HB:=n0_;have BK105:=n1_;have GW105:=n2_;have GE105:=n3_;clear n0_ n1_ n2_ n3_;clear hb hbox hg;have hcz6_0 : w5.cell? ⟨gb105,0,none⟩ = some (.int .i64 a0_0):=(bCe BK105.out 0).trans rfl;have hcz6_1 : w5.cell? ⟨gb105,1,none⟩ = some (.int .i64 a0_1):=(bCe BK105.out 1).trans rfl;have hfz6_0:=bFr BK105.out 0;have hfz6_1:=bFr BK105.out 1)|((with_reducible refine gate_callee (f:=52) rfl ?_);refine goesL_ (some 5) rfl rfl Tryd.func52 (by kernel_rfl) rfl #[.int .i64 a0_0,.int .i64 0,.int .i64 65535] rfl (by (try simp only [List.map_toArray,List.map_cons,List.map_nil]);first | done | rfl|(simp only [List.length_drop,List.length_take];rfl)) ?_;(with_reducible refine (spec_l01In.calls a0_0 0 65535 true _ A2.out).mono ?_);rintro e w' ⟨rfl,⟨nd,rfl⟩⟩;refine ⟨_,rfl,?_⟩)|(go_at_call 52;(with_reducible refine (spec_l01In.calls a0_1 a0_0 65535 t107 _ A4.out).mono ?_);rintro e w' ⟨rfl,⟨nd,rfl⟩⟩))
  go_ret
  exact ⟨by first | rfl|(simp [errW_none,errW_some] <;> rfl)|(simp [*,errW_none,errW_some] <;> rfl),by repeat (first|(with_reducible first|exact HB.out|apply bwA|apply bwN|apply bw1|refine below_set ?_ GE105.out)|exact HB.out)⟩
 ·replace c3:=Bool.eq_false_iff.mpr c3
  subst c3
  have H1 : (some false) = some r:=by rw [if_neg (show ¬ (false = true) by decide)] at H;exact H
  clear H
  have H:=H1
  clear H1
  obtain rfl:=Option.some.inj H
  go_enter Tryd.func31,Tryd.ntmps31
  go_wp2_with (first|((with_reducible refine gate_dst (N:=1) rfl ?_);refine box_event ?hg (N:=1) ?hd (cs:=#[.int .i64 a0_0,.int .i64 a0_1]) (t:=31) ?hr ?_;(case hd => rfl);(case hg => rfl);(case hr => first|(go_simp;done)|(go_simp;rfl));intro gb105 hg w7 hbox hb;have n0_:=aMk (below_step (by repeat first|exact HB.out|apply bwA|apply bwN|apply bw1) hb);have n1_:=aMk (hbox);have n2_:=aMk ((by rw [hg];exact (below_size (by repeat first|exact HB.out|apply bwA|apply bwN|apply bw1)) : w.heap.size ≤ gb105));have n3_:=aMk ((by rw [hg];exact (below_size (by repeat first|exact HB.out|apply bwA|apply bwN|apply bw1)) : w.heap.size ≤ gb105));clear HB;have HB:=n0_;have BK105:=n1_;have GW105:=n2_;have GE105:=n3_;clear n0_ n1_ n2_ n3_;clear hb hbox hg;have hcz8_0 : w7.cell? ⟨gb105,0,none⟩ = some (.int .i64 a0_0):=(bCe BK105.out 0).trans rfl;have hcz8_1 : w7.cell? ⟨gb105,1,none⟩ = some (.int .i64 a0_1):=(bCe BK105.out 1).trans rfl;have hfz8_0:=bFr BK105.out 0;have hfz8_1:=bFr BK105.out 1)|((with_reducible refine gate_callee (f:=52) rfl ?_);refine goesL_ (some 5) rfl rfl Tryd.func52 (by kernel_rfl) rfl #[.int .i64 a0_0,.int .i64 0,.int .i64 65535] rfl (by (try simp only [List.map_toArray,List.map_cons,List.map_nil]);first | done | rfl|(simp only [List.length_drop,List.length_take];rfl)) ?_;(with_reducible refine (spec_l01In.calls a0_0 0 65535 false _ A2.out).mono ?_);rintro e w' ⟨rfl,⟨nd,rfl⟩⟩;refine ⟨_,rfl,?_⟩))
  go_ret
  exact ⟨by first | rfl|(simp [errW_none,errW_some] <;> rfl)|(simp [*,errW_none,errW_some] <;> rfl),by repeat (first|(with_reducible first|exact HB.out|apply bwA|apply bwN|apply bw1|refine below_set ?_ GE105.out)|exact HB.out)⟩
end
section
/-! ### spec_RuleOK: function 11 -/
def spec_RuleOK.f (a0_0 : Int) (a0_1 : Int) (a0_2 : Int) (a0_3 : Int) (a0_4 : Int) (a0_5 : Bool) : Option (Bool):=if a0_0 = 0 then ((spec_NetOK.f a0_1 a0_2).bind fun t109 => (if t109 = true then ((spec_l07Range.f a0_3 a0_4).bind fun t110 => (some t110)) else (some false))) else (if a0_0 = 1 then ((spec_NetOK.f a0_1 a0_2).bind fun t111 => (if t111 = true then ((spec_l07Range.f a0_3 a0_4).bind fun t112 => (some t112)) else (some false))) else (if a0_0 = 6 then ((spec_NetOK.f a0_1 a0_2).bind fun t113 => (if t113 = true then ((spec_l07Range.f a0_3 a0_4).bind fun t114 => (some t114)) else (some false))) else (if a0_0 = 17 then ((spec_NetOK.f a0_1 a0_2).bind fun t115 => (if t115 = true then ((spec_l07Range.f a0_3 a0_4).bind fun t116 => (some t116)) else (some false))) else (some false))))
set_option maxHeartbeats 8000000 in
set_option maxRecDepth 100000 in
theorem spec_RuleOK.calls (a0_0 : Int) (a0_1 : Int) (a0_2 : Int) (a0_3 : Int) (a0_4 : Int) (a0_5 : Bool) (r : Bool) (w : World) (h : spec_RuleOK.f a0_0 a0_1 a0_2 a0_3 a0_4 a0_5 = some r) :
  Calls Tryd.prog 11 #[.agg #[.int .i64 a0_0,.int .i64 a0_1,.int .i64 a0_2,.int .i64 a0_3,.int .i64 a0_4,.bool a0_5]] w fun e w' => e = .returned (.bool r) ∧ Below w.heap.size w w':=by
 have hu33:=Tryd.underlying33
 have hu30:=Tryd.underlying30
 have hu31:=Tryd.underlying31
 have HB:=aMk (Below.refl w.heap.size w)
 have H : (if a0_0 = 0 then ((spec_NetOK.f a0_1 a0_2).bind fun t109 => (if t109 = true then ((spec_l07Range.f a0_3 a0_4).bind fun t110 => (some t110)) else (some false))) else (if a0_0 = 1 then ((spec_NetOK.f a0_1 a0_2).bind fun t111 => (if t111 = true then ((spec_l07Range.f a0_3 a0_4).bind fun t112 => (some t112)) else (some false))) else (if a0_0 = 6 then ((spec_NetOK.f a0_1 a0_2).bind fun t113 => (if t113 = true then ((spec_l07Range.f a0_3 a0_4).bind fun t114 => (some t114)) else (some false))) else (if a0_0 = 17 then ((spec_NetOK.f a0_1 a0_2).bind fun t115 => (if t115 = true then ((spec_l07Range.f a0_3 a0_4).bind fun t116 => (some t116)) else (some false))) else (some false))))) = some r:=h
 clear h
 by_cases c2 : a0_0 = 0
 ·rw [if_pos c2] at H
  have c2b0 : (a0_0 == 0) = true:=beq_iff_eq.mpr c2
  have c2b1 : (a0_0 != 0) = false:=bne_eq_false_iff_eq.mpr c2
  clear c2
  replace H:=Option.bind_eq_some_iff.mp H
  obtain ⟨t109,A30,H⟩:=H
  replace H : (if t109 = true then ((spec_l07Range.f a0_3 a0_4).bind fun t110 => (some t110)) else (some false)) = some r:=H
  have A3:=aMk A30
  clear A30
  by_cases c4 : t109 = true
  ·subst c4
   have H1 : ((spec_l07Range.f a0_3 a0_4).bind fun t110 => (some t110)) = some r:=by rw [if_pos rfl] at H;exact H
   clear H
   have H:=H1
   clear H1
   replace H:=Option.bind_eq_some_iff.mp H
   obtain ⟨t110,A50,H⟩:=H
   replace H : (some t110) = some r:=H
   have A5:=aMk A50
   clear A50
   obtain rfl:=Option.some.inj H
   go_enter Tryd.func11,Tryd.ntmps11
   go_wp2_with (first|((with_reducible refine gate_dst (N:=1) rfl ?_);refine box_event ?hg (N:=1) ?hd (cs:=#[.int .i64 a0_0,.int .i64 a0_1,.int .i64 a0_2,.int .i64 a0_3,.int .i64 a0_4,.bool a0_5]) (t:=33) ?hr ?_;(case hd => rfl);(case hg => rfl);(case hr => first|(go_simp;done)|(go_simp;rfl));intro gb108 hg w6 hbox hb;have n0_:=aMk (below_step (by repeat first|exact HB.out|apply bwA|apply bwN|apply bw1) hb);have n1_:=aMk (hbox);have n2_:=aMk ((by rw [hg];exact (below_size (by repeat first|exact HB.out|apply bwA|apply bwN|apply bw1)) : w.heap.size ≤ gb108));have n3_:=aMk ((by rw [hg];exact (below_size (by repeat first|exact HB.out|apply bwA|apply bwN|apply bw1)) : w.heap.size ≤ gb108));clear HB;have HB:=n0_;have BK108:=n1_;have GW108:=n2_;have GE108:=n3_;clear n0_ n1_ n2_ n3_;clear hb hbox hg;have hcz7_0 : w6.cell? ⟨gb108,0,none⟩ = some (.int .i64 a0_0):=(bCe BK108.out 0).trans rfl;have hcz7_1 : w6.cell? ⟨gb108,1,none⟩ = some (.int .i64 a0_1):=(bCe BK108.out 1).trans rfl;have hcz7_2 : w6.cell? ⟨gb108,2,none⟩ = some (.int .i64 a0_2):=(bCe BK108.out 2).trans rfl;have hcz7_3 : w6.cell? ⟨gb108,3,none⟩ = some (.int .i64 a0_3):=(bCe BK108.out 3).trans rfl;have hcz7_4 : w6.cell? ⟨gb108,4,none⟩ = some (.int .i64 a0_4):=(bCe BK108.out 4).trans rfl;have hcz7_5 : w6.cell? ⟨gb108,5,none⟩ = some (.bool a0_5):=(bCe BK108.out 5).trans rfl;have hfz7_0:=bFr BK108.out 0;have hfz7_1:=bFr BK108.out 1;have hfz7_2:=bFr BK108.out 2;have hfz7_3:=bFr BK108.out 3;have hfz7_4:=bFr BK108.out 4;have hfz7_5:=bFr BK108.out 5)|(go_at_call 30;(with_reducible refine (spec_NetOK.calls a0_1 a0_2 true _ A3.out).mono ?_);rintro e w8 ⟨rfl,hb⟩;have n0_:=aMk (blk_below (g:=gb108) (o:=.cells #[.int .i64 a0_0,.int .i64 a0_1,.int .i64 a0_2,.int .i64 a0_3,.int .i64 a0_4,.bool a0_5] 33 (0,0)) (by (with_reducible repeat (first|refine bDn ?_ _|refine bDr ?_|refine bAl ?_ _));exact BK108.out) hb);have n1_:=aMk (below_step (by repeat (first|(with_reducible first|exact HB.out|apply bwA|apply bwN|apply bw1|refine below_set ?_ GE108.out)|exact HB.out)) hb);clear BK108;clear HB;have BK108:=n0_;have HB:=n1_;clear n0_ n1_;(try clear hb);(try clear hb2);(try clear hk);(try clear hi);have hcz9_0 : w8.cell? ⟨gb108,0,none⟩ = some (.int .i64 a0_0):=(bCe BK108.out 0).trans rfl;have hcz9_1 : w8.cell? ⟨gb108,1,none⟩ = some (.int .i64 a0_1):=(bCe BK108.out 1).trans rfl;have hcz9_2 : w8.cell? ⟨gb108,2,none⟩ = some (.int .i64 a0_2):=(bCe BK108.out 2).trans rfl;have hcz9_3 : w8.cell? ⟨gb108,3,none⟩ = some (.int .i64 a0_3):=(bCe BK108.out 3).trans rfl;have hcz9_4 : w8.cell? ⟨gb108,4,none⟩ = some (.int .i64 a0_4):=(bCe BK108.out 4).trans rfl;have hcz9_5 : w8.cell? ⟨gb108,5,none⟩ = some (.bool a0_5):=(bCe BK108.out 5).trans rfl;have hfz9_0:=bFr BK108.out 0;have hfz9_1:=bFr BK108.out 1;have hfz9_2:=bFr BK108.out 2;have hfz9_3:=bFr BK108.out 3;have hfz9_4:=bFr BK108.out 4;have hfz9_5:=bFr BK108.out 5)|(go_at_call 31;(with_reducible refine (spec_l07Range.calls a0_3 a0_4 t110 _ A5.out).mono ?_);rintro e w10 ⟨rfl,hb⟩;have n0_:=aMk (blk_below (g:=gb108) (o:=.cells #[.int .i64 a0_0,.int .i64 a0_1,.int .i64 a0_2,.int .i64 a0_3,.int .i64 a0_4,.bool a0_5] 33 (0,0)) (by (with_reducible repeat (first|refine bDn ?_ _|refine bDr ?_|refine bAl ?_ _));exact BK108.out) hb);have n1_:=aMk (below_step (by repeat (first|(with_reducible first|exact HB.out|apply bwA|apply bwN|apply bw1|refine below_set ?_ GE108.out)|exact HB.out)) hb);clear BK108;clear HB;have BK108:=n0_;have HB:=n1_;clear n0_ n1_;(try clear hb);(try clear hb2);(try clear hk);(try clear hi)))
   go_ret
   exact ⟨by first | rfl|(simp [errW_none,errW_some] <;> rfl)|(simp [*,errW_none,errW_some] <;> rfl),by repeat (first|(with_reducible first|exact HB.out|apply bwA|apply bwN|apply bw1|refine below_set ?_ GE108.out)|exact HB.out)⟩
  ·replace c4:=Bool.eq_false_iff.mpr c4
   subst c4
   have H1 : (some false) = some r:=by rw [if_neg (show ¬ (false = true) by decide)] at H;exact H
   clear H
   have H:=H1
   clear H1
   obtain rfl:=Option.some.inj H
   go_enter Tryd.func11,Tryd.ntmps11
   go_wp2_with (first|((with_reducible refine gate_dst (N:=1) rfl ?_);refine box_event ?hg (N:=1) ?hd (cs:=#[.int .i64 a0_0,.int .i64 a0_1,.int .i64 a0_2,.int .i64 a0_3,.int .i64 a0_4,.bool a0_5]) (t:=33) ?hr ?_;(case hd => rfl);(case hg => rfl);(case hr => first|(go_simp;done)|(go_simp;rfl));intro gb108 hg w11 hbox hb;have n0_:=aMk (below_step (by repeat first|exact HB.out|apply bwA|apply bwN|apply bw1) hb);have n1_:=aMk (hbox);have n2_:=aMk ((by rw [hg];exact (below_size (by repeat first|exact HB.out|apply bwA|apply bwN|apply bw1)) : w.heap.size ≤ gb108));have n3_:=aMk ((by rw [hg];exact (below_size (by repeat first|exact HB.out|apply bwA|apply bwN|apply bw1)) : w.heap.size ≤ gb108));clear HB;have HB:=n0_;have BK108:=n1_;have GW108:=n2_;have GE108:=n3_;clear n0_ n1_ n2_ n3_;clear hb hbox hg;have hcz12_0 : w11.cell? ⟨gb108,0,none⟩ = some (.int .i64 a0_0):=(bCe BK108.out 0).trans rfl;have hcz12_1 : w11.cell? ⟨gb108,1,none⟩ = some (.int .i64 a0_1):=(bCe BK108.out 1).trans rfl;have hcz12_2 : w11.cell? ⟨gb108,2,none⟩ = some (.int .i64 a0_2):=(bCe BK108.out 2).trans rfl;have hcz12_3 : w11.cell? ⟨gb108,3,none⟩ = some (.int .i64 a0_3):=(bCe BK108.out 3).trans rfl;have hcz12_4 : w11.cell? ⟨gb108,4,none⟩ = some (.int .i64 a0_4):=(bCe BK108.out 4).trans rfl;have hcz12_5 : w11.cell? ⟨gb108,5,none⟩ = some (.bool a0_5):=(bCe BK108.out 5).trans rfl;have hfz12_0:=bFr BK108.out 0;have hfz12_1:=bFr BK108.out 1;have hfz12_2:=bFr BK108.out 2;have hfz12_3:=bFr BK108.out 3;have hfz12_4:=bFr BK108.out 4;have hfz12_5:=bFr BK108.out 5)|(go_at_call 30;(with_reducible refine (spec_NetOK.calls a0_1 a0_2 false _ A3.out).mono ?_);rintro e w13 ⟨rfl,hb⟩;have n0_:=aMk (blk_below (g:=gb108) (o:=.cells #[.int .i64 a0_0,.int .i64 a0_1,.int .i64 a0_2,.int .i64 a0_3,.int .i64 a0_4,.bool a0_5] 33 (0,0)) (by (with_reducible repeat (first|refine bDn ?_ _|refine bDr ?_|refine bAl ?_ _));exact BK108.out) hb);have n1_:=aMk (below_step (by repeat (first|(with_reducible first|exact HB.out|apply bwA|apply bwN|apply bw1|refine below_set ?_ GE108.out)|exact HB.out)) hb);clear BK108;clear HB;have BK108:=n0_;have HB:=n1_;clear n0_ n1_;(try clear hb);(try clear hb2);(try clear hk);(try clear hi)))
   go_ret
   exact ⟨by first | rfl|(simp [errW_none,errW_some] <;> rfl)|(simp [*,errW_none,errW_some] <;> rfl),by repeat (first|(with_reducible first|exact HB.out|apply bwA|apply bwN|apply bw1|refine below_set ?_ GE108.out)|exact HB.out)⟩
 ·rw [if_neg c2] at H
  have c2b0 : (a0_0 == 0) = false:=beq_eq_false_iff_ne.mpr c2
  have c2b1 : (a0_0 != 0) = true:=bne_iff_ne.mpr c2
  by_cases c14 : a0_0 = 1
  ·rw [if_pos c14] at H
   have c14b0 : (a0_0 == 1) = true:=beq_iff_eq.mpr c14
   have c14b1 : (a0_0 != 1) = false:=bne_eq_false_iff_eq.mpr c14
   clear c14
   replace H:=Option.bind_eq_some_iff.mp H
   obtain ⟨t111,A150,H⟩:=H
   replace H : (if t111 = true then ((spec_l07Range.f a0_3 a0_4).bind fun t112 => (some t112)) else (some false)) = some r:=H
   have A15:=aMk A150
   clear A150
   by_cases c16 : t111 = true
   ·subst c16
    have H1 : ((spec_l07Range.f a0_3 a0_4).bind fun t112 => (some t112)) = some r:=by rw [if_pos rfl] at H;exact H
    clear H
    have H:=H1
    clear H1
    replace H:=Option.bind_eq_some_iff.mp H
    obtain ⟨t112,A170,H⟩:=H
    replace H : (some t112) = some r:=H
    have A17:=aMk A170
    clear A170
    obtain rfl:=Option.some.inj H
    go_enter Tryd.func11,Tryd.ntmps11
    go_wp2_with (first|((with_reducible refine gate_dst (N:=1) rfl ?_);refine box_event ?hg (N:=1) ?hd (cs:=#[.int .i64 a0_0,.int .i64 a0_1,.int .i64 a0_2,.int .i64 a0_3,.int .i64 a0_4,.bool a0_5]) (t:=33) ?hr ?_;(case hd => rfl);(case hg => rfl);(case hr => first|(go_simp;done)|(go_simp;rfl));intro gb108 hg w18 hbox hb;have n0_:=aMk (below_step (by repeat first|exact HB.out|apply bwA|apply bwN|apply bw1) hb);have n1_:=aMk (hbox);have n2_:=aMk ((by rw [hg];exact (below_size (by repeat first|exact HB.out|apply bwA|apply bwN|apply bw1)) : w.heap.size ≤ gb108));have n3_:=aMk ((by rw [hg];exact (below_size (by repeat first|exact HB.out|apply bwA|apply bwN|apply bw1)) : w.heap.size ≤ gb108));clear HB;have HB:=n0_;have BK108:=n1_;have GW108:=n2_;have GE108:=n3_;clear n0_ n1_ n2_ n3_;clear hb hbox hg;have hcz19_0 : w18.cell? ⟨gb108,0,none⟩ = some (.int .i64 a0_0):=(bCe BK108.out 0).trans rfl;have hcz19_1 : w18.cell? ⟨gb108,1,none⟩ = some (.int .i64 a0_1):=(bCe BK108.out 1).trans rfl;have hcz19_2 : w18.cell? ⟨gb108,2,none⟩ = some (.int .i64 a0_2):=(bCe BK108.out 2).trans rfl;have hcz19_3 : w18.cell? ⟨gb108,3,none⟩ = some (.int .i64 a0_3):=(bCe BK108.out 3).trans rfl;have hcz19_4 : w18.cell? ⟨gb108,4,none⟩ = some (.int .i64 a0_4):=(bCe BK108.out 4).trans rfl;have hcz19_5 : w18.cell? ⟨gb108,5,none⟩ = some (.bool a0_5):=(bCe BK108.out 5).trans rfl;have hfz19_0:=bFr BK108.out 0;have hfz19_1:=bFr BK108.out 1;have hfz19_2:=bFr BK108.out 2;have hfz19_3:=bFr BK108.out 3;have hfz19_4:=bFr BK108.out 4;have hfz19_5:=bFr BK108.out 5)|(go_at_call 30;(with_reducible refine (spec_NetOK.calls a0_1 a0_2 true _ A15.out).mono ?_);rintro e w20 ⟨rfl,hb⟩;have n0_:=aMk (blk_below (g:=gb108) (o:=.cells #[.int .i64 a0_0,.int .i64 a0_1,.int .i64 a0_2,.int .i64 a0_3,.int .i64 a0_4,.bool a0_5] 33 (0,0)) (by (with_reducible repeat (first|refine bDn ?_ _|refine bDr ?_|refine bAl ?_ _));exact BK108.out) hb);have n1_:=aMk (below_step (by repeat (first|(with_reducible first|exact HB.out|apply bwA|apply bwN|apply bw1|refine below_set ?_ GE108.out)|exact HB.out)) hb);clear BK108;clear HB;have BK108:=n0_;have HB:=n1_;clear n0_ n1_;(try clear hb);(try clear hb2);(try clear hk);(try clear hi);have hcz21_0 : w20.cell? ⟨gb108,0,none⟩ = some (.int .i64 a0_0):=(bCe BK108.out 0).trans rfl;have hcz21_1 : w20.cell? ⟨gb108,1,none⟩ = some (.int .i64 a0_1):=(bCe BK108.out 1).trans rfl;have hcz21_2 : w20.cell? ⟨gb108,2,none⟩ = some (.int .i64 a0_2):=(bCe BK108.out 2).trans rfl;have hcz21_3 : w20.cell? ⟨gb108,3,none⟩ = some (.int .i64 a0_3):=(bCe BK108.out 3).trans rfl;have hcz21_4 : w20.cell? ⟨gb108,4,none⟩ = some (.int .i64 a0_4):=(bCe BK108.out 4).trans rfl;have hcz21_5 : w20.cell? ⟨gb108,5,none⟩ = some (.bool a0_5):=(bCe BK108.out 5).trans rfl;have hfz21_0:=bFr BK108.out 0;have hfz21_1:=bFr BK108.out 1;have hfz21_2:=bFr BK108.out 2;have hfz21_3:=bFr BK108.out 3;have hfz21_4:=bFr BK108.out 4;have hfz21_5:=bFr BK108.out 5)|(go_at_call 31;(with_reducible refine (spec_l07Range.calls a0_3 a0_4 t112 _ A17.out).mono ?_);rintro e w22 ⟨rfl,hb⟩;have n0_:=aMk (blk_below (g:=gb108) (o:=.cells #[.int .i64 a0_0,.int .i64 a0_1,.int .i64 a0_2,.int .i64 a0_3,.int .i64 a0_4,.bool a0_5] 33 (0,0)) (by (with_reducible repeat (first|refine bDn ?_ _|refine bDr ?_|refine bAl ?_ _));exact BK108.out) hb);have n1_:=aMk (below_step (by repeat (first|(with_reducible first|exact HB.out|apply bwA|apply bwN|apply bw1|refine below_set ?_ GE108.out)|exact HB.out)) hb);clear BK108;clear HB;have BK108:=n0_;have HB:=n1_;clear n0_ n1_;(try clear hb);(try clear hb2);(try clear hk);(try clear hi)))
    go_ret
    exact ⟨by first | rfl|(simp [errW_none,errW_some] <;> rfl)|(simp [*,errW_none,errW_some] <;> rfl),by repeat (first|(with_reducible first|exact HB.out|apply bwA|apply bwN|apply bw1|refine below_set ?_ GE108.out)|exact HB.out)⟩
   ·replace c16:=Bool.eq_false_iff.mpr c16
    subst c16
    have H1 : (some false) = some r:=by rw [if_neg (show ¬ (false = true) by decide)] at H;exact H
    clear H
    have H:=H1
    clear H1
    obtain rfl:=Option.some.inj H
    go_enter Tryd.func11,Tryd.ntmps11
    go_wp2_with (first|((with_reducible refine gate_dst (N:=1) rfl ?_);refine box_event ?hg (N:=1) ?hd (cs:=#[.int .i64 a0_0,.int .i64 a0_1,.int .i64 a0_2,.int .i64 a0_3,.int .i64 a0_4,.bool a0_5]) (t:=33) ?hr ?_;(case hd => rfl);(case hg => rfl);(case hr => first|(go_simp;done)|(go_simp;rfl));intro gb108 hg w23 hbox hb;have n0_:=aMk (below_step (by repeat first|exact HB.out|apply bwA|apply bwN|apply bw1) hb);have n1_:=aMk (hbox);have n2_:=aMk ((by rw [hg];exact (below_size (by repeat first|exact HB.out|apply bwA|apply bwN|apply bw1)) : w.heap.size ≤ gb108));have n3_:=aMk ((by rw [hg];exact (below_size (by repeat first|exact HB.out|apply bwA|apply bwN|apply bw1)) : w.heap.size ≤ gb108));clear HB;have HB:=n0_;have BK108:=n1_;have GW108:=n2_;have GE108:=n3_;clear n0_ n1_ n2_ n3_;clear hb hbox hg;have hcz24_0 : w23.cell? ⟨gb108,0,none⟩ = some (.int .i64 a0_0):=(bCe BK108.out 0).trans rfl;have hcz24_1 : w23.cell? ⟨gb108,1,none⟩ = some (.int .i64 a0_1):=(bCe BK108.out 1).trans rfl;have hcz24_2 : w23.cell? ⟨gb108,2,none⟩ = some (.int .i64 a0_2):=(bCe BK108.out 2).trans rfl;have hcz24_3 : w23.cell? ⟨gb108,3,none⟩ = some (.int .i64 a0_3):=(bCe BK108.out 3).trans rfl;have hcz24_4 : w23.cell? ⟨gb108,4,none⟩ = some (.int .i64 a0_4):=(bCe BK108.out 4).trans rfl;have hcz24_5 : w23.cell? ⟨gb108,5,none⟩ = some (.bool a0_5):=(bCe BK108.out 5).trans rfl;have hfz24_0:=bFr BK108.out 0;have hfz24_1:=bFr BK108.out 1;have hfz24_2:=bFr BK108.out 2;have hfz24_3:=bFr BK108.out 3;have hfz24_4:=bFr BK108.out 4;have hfz24_5:=bFr BK108.out 5)|(go_at_call 30;(with_reducible refine (spec_NetOK.calls a0_1 a0_2 false _ A15.out).mono ?_);rintro e w25 ⟨rfl,hb⟩;have n0_:=aMk (blk_below (g:=gb108) (o:=.cells #[.int .i64 a0_0,.int .i64 a0_1,.int .i64 a0_2,.int .i64 a0_3,.int .i64 a0_4,.bool a0_5] 33 (0,0)) (by (with_reducible repeat (first|refine bDn ?_ _|refine bDr ?_|refine bAl ?_ _));exact BK108.out) hb);have n1_:=aMk (below_step (by repeat (first|(with_reducible first|exact HB.out|apply bwA|apply bwN|apply bw1|refine below_set ?_ GE108.out)|exact HB.out)) hb);clear BK108;clear HB;have BK108:=n0_;have HB:=n1_;clear n0_ n1_;(try clear hb);(try clear hb2);(try clear hk);(try clear hi)))
    go_ret
    exact ⟨by first | rfl|(simp [errW_none,errW_some] <;> rfl)|(simp [*,errW_none,errW_some] <;> rfl),by repeat (first|(with_reducible first|exact HB.out|apply bwA|apply bwN|apply bw1|refine below_set ?_ GE108.out)|exact HB.out)⟩
  ·rw [if_neg c14] at H
   have c14b0 : (a0_0 == 1) = false:=beq_eq_false_iff_ne.mpr c14
   have c14b1 : (a0_0 != 1) = true:=bne_iff_ne.mpr c14
   by_cases c26 : a0_0 = 6
   ·rw [if_pos c26] at H
    have c26b0 : (a0_0 == 6) = true:=beq_iff_eq.mpr c26
    have c26b1 : (a0_0 != 6) = false:=bne_eq_false_iff_eq.mpr c26
    clear c26
    replace H:=Option.bind_eq_some_iff.mp H
    obtain ⟨t113,A270,H⟩:=H
    replace H : (if t113 = true then ((spec_l07Range.f a0_3 a0_4).bind fun t114 => (some t114)) else (some false)) = some r:=H
    have A27:=aMk A270
    clear A270
    by_cases c28 : t113 = true
    ·subst c28
     have H1 : ((spec_l07Range.f a0_3 a0_4).bind fun t114 => (some t114)) = some r:=by rw [if_pos rfl] at H;exact H
     clear H
     have H:=H1
     clear H1
     replace H:=Option.bind_eq_some_iff.mp H
     obtain ⟨t114,A290,H⟩:=H
     replace H : (some t114) = some r:=H
     have A29:=aMk A290
     clear A290
     obtain rfl:=Option.some.inj H
     go_enter Tryd.func11,Tryd.ntmps11
     go_wp2_with (first|((with_reducible refine gate_dst (N:=1) rfl ?_);refine box_event ?hg (N:=1) ?hd (cs:=#[.int .i64 a0_0,.int .i64 a0_1,.int .i64 a0_2,.int .i64 a0_3,.int .i64 a0_4,.bool a0_5]) (t:=33) ?hr ?_;(case hd => rfl);(case hg => rfl);(case hr => first|(go_simp;done)|(go_simp;rfl));intro gb108 hg w30 hbox hb;have n0_:=aMk (below_step (by repeat first|exact HB.out|apply bwA|apply bwN|apply bw1) hb);have n1_:=aMk (hbox);have n2_:=aMk ((by rw [hg];exact (below_size (by repeat first|exact HB.out|apply bwA|apply bwN|apply bw1)) : w.heap.size ≤ gb108));have n3_:=aMk ((by rw [hg];exact (below_size (by repeat first|exact HB.out|apply bwA|apply bwN|apply bw1)) : w.heap.size ≤ gb108));clear HB;have HB:=n0_;have BK108:=n1_;have GW108:=n2_;have GE108:=n3_;clear n0_ n1_ n2_ n3_;clear hb hbox hg;have hcz31_0 : w30.cell? ⟨gb108,0,none⟩ = some (.int .i64 a0_0):=(bCe BK108.out 0).trans rfl;have hcz31_1 : w30.cell? ⟨gb108,1,none⟩ = some (.int .i64 a0_1):=(bCe BK108.out 1).trans rfl;have hcz31_2 : w30.cell? ⟨gb108,2,none⟩ = some (.int .i64 a0_2):=(bCe BK108.out 2).trans rfl;have hcz31_3 : w30.cell? ⟨gb108,3,none⟩ = some (.int .i64 a0_3):=(bCe BK108.out 3).trans rfl;have hcz31_4 : w30.cell? ⟨gb108,4,none⟩ = some (.int .i64 a0_4):=(bCe BK108.out 4).trans rfl;have hcz31_5 : w30.cell? ⟨gb108,5,none⟩ = some (.bool a0_5):=(bCe BK108.out 5).trans rfl;have hfz31_0:=bFr BK108.out 0;have hfz31_1:=bFr BK108.out 1;have hfz31_2:=bFr BK108.out 2;have hfz31_3:=bFr BK108.out 3;have hfz31_4:=bFr BK108.out 4;have hfz31_5:=bFr BK108.out 5)|(go_at_call 30;(with_reducible refine (spec_NetOK.calls a0_1 a0_2 true _ A27.out).mono ?_);rintro e w32 ⟨rfl,hb⟩;have n0_:=aMk (blk_below (g:=gb108) (o:=.cells #[.int .i64 a0_0,.int .i64 a0_1,.int .i64 a0_2,.int .i64 a0_3,.int .i64 a0_4,.bool a0_5] 33 (0,0)) (by (with_reducible repeat (first|refine bDn ?_ _|refine bDr ?_|refine bAl ?_ _));exact BK108.out) hb);have n1_:=aMk (below_step (by repeat (first|(with_reducible first|exact HB.out|apply bwA|apply bwN|apply bw1|refine below_set ?_ GE108.out)|exact HB.out)) hb);clear BK108;clear HB;have BK108:=n0_;have HB:=n1_;clear n0_ n1_;(try clear hb);(try clear hb2);(try clear hk);(try clear hi);have hcz33_0 : w32.cell? ⟨gb108,0,none⟩ = some (.int .i64 a0_0):=(bCe BK108.out 0).trans rfl;have hcz33_1 : w32.cell? ⟨gb108,1,none⟩ = some (.int .i64 a0_1):=(bCe BK108.out 1).trans rfl;have hcz33_2 : w32.cell? ⟨gb108,2,none⟩ = some (.int .i64 a0_2):=(bCe BK108.out 2).trans rfl;have hcz33_3 : w32.cell? ⟨gb108,3,none⟩ = some (.int .i64 a0_3):=(bCe BK108.out 3).trans rfl;have hcz33_4 : w32.cell? ⟨gb108,4,none⟩ = some (.int .i64 a0_4):=(bCe BK108.out 4).trans rfl;have hcz33_5 : w32.cell? ⟨gb108,5,none⟩ = some (.bool a0_5):=(bCe BK108.out 5).trans rfl;have hfz33_0:=bFr BK108.out 0;have hfz33_1:=bFr BK108.out 1;have hfz33_2:=bFr BK108.out 2;have hfz33_3:=bFr BK108.out 3;have hfz33_4:=bFr BK108.out 4;have hfz33_5:=bFr BK108.out 5)|(go_at_call 31;(with_reducible refine (spec_l07Range.calls a0_3 a0_4 t114 _ A29.out).mono ?_);rintro e w34 ⟨rfl,hb⟩;have n0_:=aMk (blk_below (g:=gb108) (o:=.cells #[.int .i64 a0_0,.int .i64 a0_1,.int .i64 a0_2,.int .i64 a0_3,.int .i64 a0_4,.bool a0_5] 33 (0,0)) (by (with_reducible repeat (first|refine bDn ?_ _|refine bDr ?_|refine bAl ?_ _));exact BK108.out) hb);have n1_:=aMk (below_step (by repeat (first|(with_reducible first|exact HB.out|apply bwA|apply bwN|apply bw1|refine below_set ?_ GE108.out)|exact HB.out)) hb);clear BK108;clear HB;have BK108:=n0_;have HB:=n1_;clear n0_ n1_;(try clear hb);(try clear hb2);(try clear hk);(try clear hi)))
     go_ret
     exact ⟨by first | rfl|(simp [errW_none,errW_some] <;> rfl)|(simp [*,errW_none,errW_some] <;> rfl),by repeat (first|(with_reducible first|exact HB.out|apply bwA|apply bwN|apply bw1|refine below_set ?_ GE108.out)|exact HB.out)⟩
    ·replace c28:=Bool.eq_false_iff.mpr c28
     subst c28
     have H1 : (some false) = some r:=by rw [if_neg (show ¬ (false = true) by decide)] at H;exact H
     clear H
     have H:=H1
     clear H1
     obtain rfl:=Option.some.inj H
     go_enter Tryd.func11,Tryd.ntmps11
     go_wp2_with (first|((with_reducible refine gate_dst (N:=1) rfl ?_);refine box_event ?hg (N:=1) ?hd (cs:=#[.int .i64 a0_0,.int .i64 a0_1,.int .i64 a0_2,.int .i64 a0_3,.int .i64 a0_4,.bool a0_5]) (t:=33) ?hr ?_;(case hd => rfl);(case hg => rfl);(case hr => first|(go_simp;done)|(go_simp;rfl));intro gb108 hg w35 hbox hb;have n0_:=aMk (below_step (by repeat first|exact HB.out|apply bwA|apply bwN|apply bw1) hb);have n1_:=aMk (hbox);have n2_:=aMk ((by rw [hg];exact (below_size (by repeat first|exact HB.out|apply bwA|apply bwN|apply bw1)) : w.heap.size ≤ gb108));have n3_:=aMk ((by rw [hg];exact (below_size (by repeat first|exact HB.out|apply bwA|apply bwN|apply bw1)) : w.heap.size ≤ gb108));clear HB;have HB:=n0_;have BK108:=n1_;have GW108:=n2_;have GE108:=n3_;clear n0_ n1_ n2_ n3_;clear hb hbox hg;have hcz36_0 : w35.cell? ⟨gb108,0,none⟩ = some (.int .i64 a0_0):=(bCe BK108.out 0).trans rfl;have hcz36_1 : w35.cell? ⟨gb108,1,none⟩ = some (.int .i64 a0_1):=(bCe BK108.out 1).trans rfl;have hcz36_2 : w35.cell? ⟨gb108,2,none⟩ = some (.int .i64 a0_2):=(bCe BK108.out 2).trans rfl;have hcz36_3 : w35.cell? ⟨gb108,3,none⟩ = some (.int .i64 a0_3):=(bCe BK108.out 3).trans rfl;have hcz36_4 : w35.cell? ⟨gb108,4,none⟩ = some (.int .i64 a0_4):=(bCe BK108.out 4).trans rfl;have hcz36_5 : w35.cell? ⟨gb108,5,none⟩ = some (.bool a0_5):=(bCe BK108.out 5).trans rfl;have hfz36_0:=bFr BK108.out 0;have hfz36_1:=bFr BK108.out 1;have hfz36_2:=bFr BK108.out 2;have hfz36_3:=bFr BK108.out 3;have hfz36_4:=bFr BK108.out 4;have hfz36_5:=bFr BK108.out 5)|(go_at_call 30;(with_reducible refine (spec_NetOK.calls a0_1 a0_2 false _ A27.out).mono ?_);rintro e w37 ⟨rfl,hb⟩;have n0_:=aMk (blk_below (g:=gb108) (o:=.cells #[.int .i64 a0_0,.int .i64 a0_1,.int .i64 a0_2,.int .i64 a0_3,.int .i64 a0_4,.bool a0_5] 33 (0,0)) (by (with_reducible repeat (first|refine bDn ?_ _|refine bDr ?_|refine bAl ?_ _));exact BK108.out) hb);have n1_:=aMk (below_step (by repeat (first|(with_reducible first|exact HB.out|apply bwA|apply bwN|apply bw1|refine below_set ?_ GE108.out)|exact HB.out)) hb);clear BK108;clear HB;have BK108:=n0_;have HB:=n1_;clear n0_ n1_;(try clear hb);(try clear hb2);(try clear hk);(try clear hi)))
     go_ret
     exact ⟨by first | rfl|(simp [errW_none,errW_some] <;> rfl)|(simp [*,errW_none,errW_some] <;> rfl),by repeat (first|(with_reducible first|exact HB.out|apply bwA|apply bwN|apply bw1|refine below_set ?_ GE108.out)|exact HB.out)⟩
   ·rw [if_neg c26] at H
    have c26b0 : (a0_0 == 6) = false:=beq_eq_false_iff_ne.mpr c26
    have c26b1 : (a0_0 != 6) = true:=bne_iff_ne.mpr c26
    by_cases c38 : a0_0 = 17
    ·rw [if_pos c38] at H
     have c38b0 : (a0_0 == 17) = true:=beq_iff_eq.mpr c38
     have c38b1 : (a0_0 != 17) = false:=bne_eq_false_iff_eq.mpr c38
     clear c38
     replace H:=Option.bind_eq_some_iff.mp H
     obtain ⟨t115,A390,H⟩:=H
     replace H : (if t115 = true then ((spec_l07Range.f a0_3 a0_4).bind fun t116 => (some t116)) else (some false)) = some r:=H
     have A39:=aMk A390
     clear A390
     by_cases c40 : t115 = true
     ·subst c40
      have H1 : ((spec_l07Range.f a0_3 a0_4).bind fun t116 => (some t116)) = some r:=by rw [if_pos rfl] at H;exact H
      clear H
      have H:=H1
      clear H1
      replace H:=Option.bind_eq_some_iff.mp H
      obtain ⟨t116,A410,H⟩:=H
      replace H : (some t116) = some r:=H
      have A41:=aMk A410
      clear A410
      obtain rfl:=Option.some.inj H
      go_enter Tryd.func11,Tryd.ntmps11
      go_wp2_with (first|((with_reducible refine gate_dst (N:=1) rfl ?_);refine box_event ?hg (N:=1) ?hd (cs:=#[.int .i64 a0_0,.int .i64 a0_1,.int .i64 a0_2,.int .i64 a0_3,.int .i64 a0_4,.bool a0_5]) (t:=33) ?hr ?_;(case hd => rfl);(case hg => rfl);(case hr => first|(go_simp;done)|(go_simp;rfl));intro gb108 hg w42 hbox hb;have n0_:=aMk (below_step (by repeat first|exact HB.out|apply bwA|apply bwN|apply bw1) hb);have n1_:=aMk (hbox);have n2_:=aMk ((by rw [hg];exact (below_size (by repeat first|exact HB.out|apply bwA|apply bwN|apply bw1)) : w.heap.size ≤ gb108));have n3_:=aMk ((by rw [hg];exact (below_size (by repeat first|exact HB.out|apply bwA|apply bwN|apply bw1)) : w.heap.size ≤ gb108));clear HB;have HB:=n0_;have BK108:=n1_;have GW108:=n2_;have GE108:=n3_;clear n0_ n1_ n2_ n3_;clear hb hbox hg;have hcz43_0 : w42.cell? ⟨gb108,0,none⟩ = some (.int .i64 a0_0):=(bCe BK108.out 0).trans rfl;have hcz43_1 : w42.cell? ⟨gb108,1,none⟩ = some (.int .i64 a0_1):=(bCe BK108.out 1).trans rfl;have hcz43_2 : w42.cell? ⟨gb108,2,none⟩ = some (.int .i64 a0_2):=(bCe BK108.out 2).trans rfl;have hcz43_3 : w42.cell? ⟨gb108,3,none⟩ = some (.int .i64 a0_3):=(bCe BK108.out 3).trans rfl;have hcz43_4 : w42.cell? ⟨gb108,4,none⟩ = some (.int .i64 a0_4):=(bCe BK108.out 4).trans rfl;have hcz43_5 : w42.cell? ⟨gb108,5,none⟩ = some (.bool a0_5):=(bCe BK108.out 5).trans rfl;have hfz43_0:=bFr BK108.out 0;have hfz43_1:=bFr BK108.out 1;have hfz43_2:=bFr BK108.out 2;have hfz43_3:=bFr BK108.out 3;have hfz43_4:=bFr BK108.out 4;have hfz43_5:=bFr BK108.out 5)|(go_at_call 30;(with_reducible refine (spec_NetOK.calls a0_1 a0_2 true _ A39.out).mono ?_);rintro e w44 ⟨rfl,hb⟩;have n0_:=aMk (blk_below (g:=gb108) (o:=.cells #[.int .i64 a0_0,.int .i64 a0_1,.int .i64 a0_2,.int .i64 a0_3,.int .i64 a0_4,.bool a0_5] 33 (0,0)) (by (with_reducible repeat (first|refine bDn ?_ _|refine bDr ?_|refine bAl ?_ _));exact BK108.out) hb);have n1_:=aMk (below_step (by repeat (first|(with_reducible first|exact HB.out|apply bwA|apply bwN|apply bw1|refine below_set ?_ GE108.out)|exact HB.out)) hb);clear BK108;clear HB;have BK108:=n0_;have HB:=n1_;clear n0_ n1_;(try clear hb);(try clear hb2);(try clear hk);(try clear hi);have hcz45_0 : w44.cell? ⟨gb108,0,none⟩ = some (.int .i64 a0_0):=(bCe BK108.out 0).trans rfl;have hcz45_1 : w44.cell? ⟨gb108,1,none⟩ = some (.int .i64 a0_1):=(bCe BK108.out 1).trans rfl;have hcz45_2 : w44.cell? ⟨gb108,2,none⟩ = some (.int .i64 a0_2):=(bCe BK108.out 2).trans rfl;have hcz45_3 : w44.cell? ⟨gb108,3,none⟩ = some (.int .i64 a0_3):=(bCe BK108.out 3).trans rfl;have hcz45_4 : w44.cell? ⟨gb108,4,none⟩ = some (.int .i64 a0_4):=(bCe BK108.out 4).trans rfl;have hcz45_5 : w44.cell? ⟨gb108,5,none⟩ = some (.bool a0_5):=(bCe BK108.out 5).trans rfl;have hfz45_0:=bFr BK108.out 0;have hfz45_1:=bFr BK108.out 1;have hfz45_2:=bFr BK108.out 2;have hfz45_3:=bFr BK108.out 3;have hfz45_4:=bFr BK108.out 4;have hfz45_5:=bFr BK108.out 5)|(go_at_call 31;(with_reducible refine (spec_l07Range.calls a0_3 a0_4 t116 _ A41.out).mono ?_);rintro e w46 ⟨rfl,hb⟩;have n0_:=aMk (blk_below (g:=gb108) (o:=.cells #[.int .i64 a0_0,.int .i64 a0_1,.int .i64 a0_2,.int .i64 a0_3,.int .i64 a0_4,.bool a0_5] 33 (0,0)) (by (with_reducible repeat (first|refine bDn ?_ _|refine bDr ?_|refine bAl ?_ _));exact BK108.out) hb);have n1_:=aMk (below_step (by repeat (first|(with_reducible first|exact HB.out|apply bwA|apply bwN|apply bw1|refine below_set ?_ GE108.out)|exact HB.out)) hb);clear BK108;clear HB;have BK108:=n0_;have HB:=n1_;clear n0_ n1_;(try clear hb);(try clear hb2);(try clear hk);(try clear hi)))
      go_ret
      exact ⟨by first | rfl|(simp [errW_none,errW_some] <;> rfl)|(simp [*,errW_none,errW_some] <;> rfl),by repeat (first|(with_reducible first|exact HB.out|apply bwA|apply bwN|apply bw1|refine below_set ?_ GE108.out)|exact HB.out)⟩
     ·replace c40:=Bool.eq_false_iff.mpr c40
      subst c40
      have H1 : (some false) = some r:=by rw [if_neg (show ¬ (false = true) by decide)] at H;exact H
      clear H
      have H:=H1
      clear H1
      obtain rfl:=Option.some.inj H
      go_enter Tryd.func11,Tryd.ntmps11
      go_wp2_with (first|((with_reducible refine gate_dst (N:=1) rfl ?_);refine box_event ?hg (N:=1) ?hd (cs:=#[.int .i64 a0_0,.int .i64 a0_1,.int .i64 a0_2,.int .i64 a0_3,.int .i64 a0_4,.bool a0_5]) (t:=33) ?hr ?_;(case hd => rfl);(case hg => rfl);(case hr => first|(go_simp;done)|(go_simp;rfl));intro gb108 hg w47 hbox hb;have n0_:=aMk (below_step (by repeat first|exact HB.out|apply bwA|apply bwN|apply bw1) hb);have n1_:=aMk (hbox);have n2_:=aMk ((by rw [hg];exact (below_size (by repeat first|exact HB.out|apply bwA|apply bwN|apply bw1)) : w.heap.size ≤ gb108));have n3_:=aMk ((by rw [hg];exact (below_size (by repeat first|exact HB.out|apply bwA|apply bwN|apply bw1)) : w.heap.size ≤ gb108));clear HB;have HB:=n0_;have BK108:=n1_;have GW108:=n2_;have GE108:=n3_;clear n0_ n1_ n2_ n3_;clear hb hbox hg;have hcz48_0 : w47.cell? ⟨gb108,0,none⟩ = some (.int .i64 a0_0):=(bCe BK108.out 0).trans rfl;have hcz48_1 : w47.cell? ⟨gb108,1,none⟩ = some (.int .i64 a0_1):=(bCe BK108.out 1).trans rfl;have hcz48_2 : w47.cell? ⟨gb108,2,none⟩ = some (.int .i64 a0_2):=(bCe BK108.out 2).trans rfl;have hcz48_3 : w47.cell? ⟨gb108,3,none⟩ = some (.int .i64 a0_3):=(bCe BK108.out 3).trans rfl;have hcz48_4 : w47.cell? ⟨gb108,4,none⟩ = some (.int .i64 a0_4):=(bCe BK108.out 4).trans rfl;have hcz48_5 : w47.cell? ⟨gb108,5,none⟩ = some (.bool a0_5):=(bCe BK108.out 5).trans rfl;have hfz48_0:=bFr BK108.out 0;have hfz48_1:=bFr BK108.out 1;have hfz48_2:=bFr BK108.out 2;have hfz48_3:=bFr BK108.out 3;have hfz48_4:=bFr BK108.out 4;have hfz48_5:=bFr BK108.out 5)|(go_at_call 30;(with_reducible refine (spec_NetOK.calls a0_1 a0_2 false _ A39.out).mono ?_);rintro e w49 ⟨rfl,hb⟩;have n0_:=aMk (blk_below (g:=gb108) (o:=.cells #[.int .i64 a0_0,.int .i64 a0_1,.int .i64 a0_2,.int .i64 a0_3,.int .i64 a0_4,.bool a0_5] 33 (0,0)) (by (with_reducible repeat (first|refine bDn ?_ _|refine bDr ?_|refine bAl ?_ _));exact BK108.out) hb);have n1_:=aMk (below_step (by repeat (first|(with_reducible first|exact HB.out|apply bwA|apply bwN|apply bw1|refine below_set ?_ GE108.out)|exact HB.out)) hb);clear BK108;clear HB;have BK108:=n0_;have HB:=n1_;clear n0_ n1_;(try clear hb);(try clear hb2);(try clear hk);(try clear hi)))
      go_ret
      exact ⟨by first | rfl|(simp [errW_none,errW_some] <;> rfl)|(simp [*,errW_none,errW_some] <;> rfl),by repeat (first|(with_reducible first|exact HB.out|apply bwA|apply bwN|apply bw1|refine below_set ?_ GE108.out)|exact HB.out)⟩
    ·rw [if_neg c38] at H
     have c38b0 : (a0_0 == 17) = false:=beq_eq_false_iff_ne.mpr c38
     have c38b1 : (a0_0 != 17) = true:=bne_iff_ne.mpr c38
     obtain rfl:=Option.some.inj H
     go_enter Tryd.func11,Tryd.ntmps11
     go_wp2_with (first|((with_reducible refine gate_dst (N:=1) rfl ?_);refine box_event ?hg (N:=1) ?hd (cs:=#[.int .i64 a0_0,.int .i64 a0_1,.int .i64 a0_2,.int .i64 a0_3,.int .i64 a0_4,.bool a0_5]) (t:=33) ?hr ?_;(case hd => rfl);(case hg => rfl);(case hr => first|(go_simp;done)|(go_simp;rfl));intro gb108 hg w50 hbox hb;have n0_:=aMk (below_step (by repeat first|exact HB.out|apply bwA|apply bwN|apply bw1) hb);have n1_:=aMk (hbox);have n2_:=aMk ((by rw [hg];exact (below_size (by repeat first|exact HB.out|apply bwA|apply bwN|apply bw1)) : w.heap.size ≤ gb108));have n3_:=aMk ((by rw [hg];exact (below_size (by repeat first|exact HB.out|apply bwA|apply bwN|apply bw1)) : w.heap.size ≤ gb108));clear HB;have HB:=n0_;have BK108:=n1_;have GW108:=n2_;have GE108:=n3_;clear n0_ n1_ n2_ n3_;clear hb hbox hg;have hcz51_0 : w50.cell? ⟨gb108,0,none⟩ = some (.int .i64 a0_0):=(bCe BK108.out 0).trans rfl;have hcz51_1 : w50.cell? ⟨gb108,1,none⟩ = some (.int .i64 a0_1):=(bCe BK108.out 1).trans rfl;have hcz51_2 : w50.cell? ⟨gb108,2,none⟩ = some (.int .i64 a0_2):=(bCe BK108.out 2).trans rfl;have hcz51_3 : w50.cell? ⟨gb108,3,none⟩ = some (.int .i64 a0_3):=(bCe BK108.out 3).trans rfl;have hcz51_4 : w50.cell? ⟨gb108,4,none⟩ = some (.int .i64 a0_4):=(bCe BK108.out 4).trans rfl;have hcz51_5 : w50.cell? ⟨gb108,5,none⟩ = some (.bool a0_5):=(bCe BK108.out 5).trans rfl;have hfz51_0:=bFr BK108.out 0;have hfz51_1:=bFr BK108.out 1;have hfz51_2:=bFr BK108.out 2;have hfz51_3:=bFr BK108.out 3;have hfz51_4:=bFr BK108.out 4;have hfz51_5:=bFr BK108.out 5))
     go_ret
     exact ⟨by first | rfl|(simp [errW_none,errW_some] <;> rfl)|(simp [*,errW_none,errW_some] <;> rfl),by repeat (first|(with_reducible first|exact HB.out|apply bwA|apply bwN|apply bw1|refine below_set ?_ GE108.out)|exact HB.out)⟩
end
section
/-! ### spec_l07ProtoNumbers: function 12 -/
def spec_l07ProtoNumbers.f  : Option (List Int):=some (([0,1,6,17] : List Int))
set_option maxHeartbeats 8000000 in
set_option maxRecDepth 100000 in
theorem spec_l07ProtoNumbers.calls  (r : List Int) (w : World) (h : spec_l07ProtoNumbers.f  = some r) :
  Calls Tryd.prog 12 #[] w fun e w' => ∃ v0_ : Value,e = .returned (v0_) ∧ Kd.R (Kd.int .i64) 3 w' w.heap.size (fun _ => True) v0_ r ∧ Below w.heap.size w w':=by
 have HB:=aMk (Below.refl w.heap.size w)
 have H : (some (([0,1,6,17] : List Int))) = some r:=h
 clear h
 obtain ⟨y117,hy117⟩ : ∃ y_ : List Int,y_ = (([0,1,6,17] : List Int)):=⟨_,rfl⟩
 replace H : (some y117) = some r:=by first|(rw [hy117];with_reducible exact H)|(have H2_:=(Option.bind_some _ _).symm.trans H;rw [hy117];with_reducible exact H2_)|(have H2_:=(Option.bind_some _ _).symm.trans H;with_reducible exact H2_) | with_reducible exact H|(rw [hy117];exact H)|exact H
 have Ny117:=aMk hy117
 clear hy117
 obtain rfl:=Option.some.inj H
 go_enter Tryd.func12,Tryd.ntmps12
 go_wp2_with (first|((with_reducible refine gate_dst (N:=1) rfl ?_);refine Kd.R_lit (Kd.int .i64) _ 3 ?hg (N:=1) ?hd (xs:=([0,1,6,17] : List Int)) (inner:=[.int .i64 0,.int .i64 1,.int .i64 6,.int .i64 17]) (ok:=fun _ => True) (okp:=fun _ => True) ?hr ?hp (fun _ hk => hk) trivial (Below.refl _ _) (Nat.le_refl _) (by simp) ?_;(case hd => rfl);(case hg => rfl);(case hr => first|(go_simp;done)|(go_simp;rfl));(case hp => exact (Reps.one (show Kd.M (Kd.int .i64) _ _ _ 0 [.int .i64 0] from rfl) (Reps.one (show Kd.M (Kd.int .i64) _ _ _ 1 [.int .i64 1] from rfl) (Reps.one (show Kd.M (Kd.int .i64) _ _ _ 6 [.int .i64 6] from rfl) (Reps.one (show Kd.M (Kd.int .i64) _ _ _ 17 [.int .i64 17] from rfl) (Reps.none _ _))))));intro v118 w1 ho2 hb hg_ hnew_;clear hg_ hnew_;(first|rw [← Ny117.out] at ho2|(simp only [Int.reduceToNat] at ho2;rw [← Ny117.out] at ho2));have n0_:=aMk (Kd.R_lower ho2 (below_size (by repeat first|exact HB.out|apply bwA|apply bwN|apply bw1)));have n1_:=aMk (below_step (by repeat first|exact HB.out|apply bwA|apply bwN|apply bw1) hb);clear HB;have HO119:=n0_;have HB:=n1_;clear n0_ n1_;clear hb ho2))
 go_ret
 exact ⟨_,by first | rfl|(simp [errW_none,errW_some] <;> rfl)|(simp [*,errW_none,errW_some] <;> rfl),by (with_reducible repeat (first|apply Kd.R_alloc|apply Kd.R_drewN|apply Kd.R_drew));exact HO119.out,by repeat (first|(with_reducible first|exact HB.out|apply bwA|apply bwN|apply bw1)|exact HB.out)⟩
end
section
/-! ### spec_l07Protos: function 13 -/
def spec_l07Protos.f  : Option (List ByteArray):=some (([(⟨#[97,110,121]⟩ : ByteArray),(⟨#[105,99,109,112]⟩ : ByteArray),(⟨#[116,99,112]⟩ : ByteArray),(⟨#[117,100,112]⟩ : ByteArray)] : List ByteArray))
set_option maxHeartbeats 8000000 in
set_option maxRecDepth 100000 in
theorem spec_l07Protos.calls  (r : List ByteArray) (w : World) (h : spec_l07Protos.f  = some r) :
  Calls Tryd.prog 13 #[] w fun e w' => ∃ v0_ : Value,e = .returned (v0_) ∧ Kd.R Kd.string 9 w' w.heap.size (fun _ => True) v0_ r ∧ Below w.heap.size w w':=by
 have HB:=aMk (Below.refl w.heap.size w)
 have H : (some (([(⟨#[97,110,121]⟩ : ByteArray),(⟨#[105,99,109,112]⟩ : ByteArray),(⟨#[116,99,112]⟩ : ByteArray),(⟨#[117,100,112]⟩ : ByteArray)] : List ByteArray))) = some r:=h
 clear h
 obtain ⟨y120,hy120⟩ : ∃ y_ : List ByteArray,y_ = (([(⟨#[97,110,121]⟩ : ByteArray),(⟨#[105,99,109,112]⟩ : ByteArray),(⟨#[116,99,112]⟩ : ByteArray),(⟨#[117,100,112]⟩ : ByteArray)] : List ByteArray)):=⟨_,rfl⟩
 replace H : (some y120) = some r:=by first|(rw [hy120];with_reducible exact H)|(have H2_:=(Option.bind_some _ _).symm.trans H;rw [hy120];with_reducible exact H2_)|(have H2_:=(Option.bind_some _ _).symm.trans H;with_reducible exact H2_) | with_reducible exact H|(rw [hy120];exact H)|exact H
 have Ny120:=aMk hy120
 clear hy120
 obtain rfl:=Option.some.inj H
 go_enter Tryd.func13,Tryd.ntmps13
 go_wp2_with (first|((with_reducible refine gate_dst (N:=1) rfl ?_);refine Kd.R_lit Kd.string _ 9 ?hg (N:=1) ?hd (xs:=([(⟨#[97,110,121]⟩ : ByteArray),(⟨#[105,99,109,112]⟩ : ByteArray),(⟨#[116,99,112]⟩ : ByteArray),(⟨#[117,100,112]⟩ : ByteArray)] : List ByteArray)) (inner:=[.string (⟨#[97,110,121]⟩ : ByteArray),.string (⟨#[105,99,109,112]⟩ : ByteArray),.string (⟨#[116,99,112]⟩ : ByteArray),.string (⟨#[117,100,112]⟩ : ByteArray)]) (ok:=fun _ => True) (okp:=fun _ => True) ?hr ?hp (fun _ hk => hk) trivial (Below.refl _ _) (Nat.le_refl _) (by simp) ?_;(case hd => rfl);(case hg => rfl);(case hr => first|(go_simp;done)|(go_simp;rfl));(case hp => exact (Reps.one (show Kd.M Kd.string _ _ _ (⟨#[97,110,121]⟩ : ByteArray) [.string (⟨#[97,110,121]⟩ : ByteArray)] from rfl) (Reps.one (show Kd.M Kd.string _ _ _ (⟨#[105,99,109,112]⟩ : ByteArray) [.string (⟨#[105,99,109,112]⟩ : ByteArray)] from rfl) (Reps.one (show Kd.M Kd.string _ _ _ (⟨#[116,99,112]⟩ : ByteArray) [.string (⟨#[116,99,112]⟩ : ByteArray)] from rfl) (Reps.one (show Kd.M Kd.string _ _ _ (⟨#[117,100,112]⟩ : ByteArray) [.string (⟨#[117,100,112]⟩ : ByteArray)] from rfl) (Reps.none _ _))))));intro v121 w1 ho2 hb hg_ hnew_;clear hg_ hnew_;(first|rw [← Ny120.out] at ho2|(simp only [Int.reduceToNat] at ho2;rw [← Ny120.out] at ho2));have n0_:=aMk (Kd.R_lower ho2 (below_size (by repeat first|exact HB.out|apply bwA|apply bwN|apply bw1)));have n1_:=aMk (below_step (by repeat first|exact HB.out|apply bwA|apply bwN|apply bw1) hb);clear HB;have HO122:=n0_;have HB:=n1_;clear n0_ n1_;clear hb ho2))
 go_ret
 exact ⟨_,by first | rfl|(simp [errW_none,errW_some] <;> rfl)|(simp [*,errW_none,errW_some] <;> rfl),by (with_reducible repeat (first|apply Kd.R_alloc|apply Kd.R_drewN|apply Kd.R_drew));exact HO122.out,by repeat (first|(with_reducible first|exact HB.out|apply bwA|apply bwN|apply bw1)|exact HB.out)⟩
end
section
/-! ### spec_l00Words: function 40 -/
mutual
def spec_l00Words.l0 : Nat → ByteArray → List ByteArray → Int → Int → Option (List ByteArray)
 | 0,_,_,_,_ => none
 | k + 1,x0,x3,x4,x5 => if x5 ≤ (x0.size : Int) then (if x5 = (x0.size : Int) then (spec_l00Words.j1 k x0 x3 x4 x5 true) else (if 0 ≤ x5 then (if x5 < (x0.size : Int) then (spec_l00Words.j1 k x0 x3 x4 x5 ((bt x0 x5) == 32)) else (none)) else (none))) else (some x3)
def spec_l00Words.j1 : Nat → ByteArray → List ByteArray → Int → Int → Bool → Option (List ByteArray)
 | 0,_,_,_,_,_ => none
 | k + 1,x0,x3,x4,x5,x22 => if x22 = true then (if x5 > x4 then (if 0 ≤ x4 then (if x4 ≤ x5 then (if x5 ≤ (x0.size : Int) then (if x3.length < 8796093022208 then (spec_l00Words.l0 k x0 (x3 ++ [x0.extract (x4 : Int).toNat (x5 : Int).toNat]) (wrap64 (x5 + 1)) (wrap64 (x5 + 1))) else (none)) else (none)) else (none)) else (none)) else (spec_l00Words.l0 k x0 x3 (wrap64 (x5 + 1)) (wrap64 (x5 + 1)))) else (spec_l00Words.l0 k x0 x3 x4 (wrap64 (x5 + 1)))
end
def spec_l00Words.f (k : Nat) (a0 : ByteArray) : Option (List ByteArray):=spec_l00Words.l0 k a0 (([] : List ByteArray)) 0 0
theorem spec_l00Words.mono_l : ∀ k,(∀ y0 y1 y2 y3,LeO (spec_l00Words.l0 k y0 y1 y2 y3) (spec_l00Words.l0 (k + 1) y0 y1 y2 y3)) ∧ (∀ y0 y1 y2 y3 y4,LeO (spec_l00Words.j1 k y0 y1 y2 y3 y4) (spec_l00Words.j1 (k + 1) y0 y1 y2 y3 y4))
 | 0 => ⟨fun _ _ _ _ r h => by simp [spec_l00Words.l0] at h,fun _ _ _ _ _ r h => by simp [spec_l00Words.j1] at h⟩
 | k + 1 => by
  obtain ⟨ih0,ih1⟩:=spec_l00Words.mono_l k
  refine ⟨?_,?_⟩
  ·intro y0 y1 y2 y3
   unfold spec_l00Words.l0
   repeat' first
   | (with_reducible exact ih0 _ _ _ _)
   | (with_reducible exact ih1 _ _ _ _ _)
   | (with_reducible exact LeO.refl _)
   | (with_reducible exact LeO.none _)
   | (with_reducible refine LeO.ite ?_ ?_)
   | (with_reducible refine LeO.bind ?_ (fun _ => ?_))
   | exact ih0 _ _ _ _
   | exact ih1 _ _ _ _ _
   | exact LeO.none _
   | refine LeO.ite ?_ ?_
   | refine LeO.bind ?_ (fun _ => ?_)
  ·intro y0 y1 y2 y3 y4
   unfold spec_l00Words.j1
   repeat' first
   | (with_reducible exact ih0 _ _ _ _)
   | (with_reducible exact ih1 _ _ _ _ _)
   | (with_reducible exact LeO.refl _)
   | (with_reducible exact LeO.none _)
   | (with_reducible refine LeO.ite ?_ ?_)
   | (with_reducible refine LeO.bind ?_ (fun _ => ?_))
   | exact ih0 _ _ _ _
   | exact ih1 _ _ _ _ _
   | exact LeO.none _
   | refine LeO.ite ?_ ?_
   | refine LeO.bind ?_ (fun _ => ?_)
theorem spec_l00Words.mono : ∀ a0 k,LeO (spec_l00Words.f k a0) (spec_l00Words.f (k + 1) a0):=by
 intro a0 k
 obtain ⟨ih0,ih1⟩:=spec_l00Words.mono_l k
 unfold spec_l00Words.f
 repeat' first
   | (with_reducible exact ih0 _ _ _ _)
   | (with_reducible exact ih1 _ _ _ _ _)
   | (with_reducible exact LeO.refl _)
   | (with_reducible exact LeO.none _)
   | (with_reducible refine LeO.ite ?_ ?_)
   | (with_reducible refine LeO.bind ?_ (fun _ => ?_))
   | exact ih0 _ _ _ _
   | exact ih1 _ _ _ _ _
   | exact LeO.none _
   | refine LeO.ite ?_ ?_
   | refine LeO.bind ?_ (fun _ => ?_)
set_option maxHeartbeats 8000000 in
set_option maxRecDepth 100000 in
theorem spec_l00Words.calls (k : Nat) (a0 : ByteArray) (r : List ByteArray) (w : World) (h : spec_l00Words.f k a0 = some r) :
  Calls Tryd.prog 40 #[.string a0] w fun e w' => ∃ v0_ : Value,e = .returned (v0_) ∧ Kd.R Kd.string 9 w' w.heap.size (fun _ => True) v0_ r ∧ Below w.heap.size w w':=by
 have HB:=aMk (Below.refl w.heap.size w)
 have H : (spec_l00Words.l0 k a0 (([] : List ByteArray)) 0 0) = some r:=h
 clear h
 obtain ⟨y234,hy234⟩ : ∃ y_ : List ByteArray,y_ = (([] : List ByteArray)):=⟨_,rfl⟩
 replace H : (spec_l00Words.l0 k a0 y234 0 0) = some r:=by first|(rw [hy234];with_reducible exact H)|(have H2_:=(Option.bind_some _ _).symm.trans H;rw [hy234];with_reducible exact H2_)|(have H2_:=(Option.bind_some _ _).symm.trans H;with_reducible exact H2_) | with_reducible exact H|(rw [hy234];exact H)|exact H
 have Ny234:=aMk hy234
 clear hy234
 have H':=aMk H
 clear H
 go_enter Tryd.func40,Tryd.ntmps40
 go_wp2_with (first|((with_reducible refine gate_dst (N:=6) rfl ?_);refine Kd.R_lit Kd.string _ 9 ?hg (N:=6) ?hd (xs:=([] : List ByteArray)) (inner:=[]) (ok:=fun _ => True) (okp:=fun _ => True) ?hr ?hp (fun _ hk => hk) trivial (Below.refl _ _) (Nat.le_refl _) (by simp) ?_;(case hd => rfl);(case hg => rfl);(case hr => first|(go_simp;done)|(go_simp;rfl));(case hp => exact (Reps.none _ _));intro v235 w2 ho3 hb hg_ hnew_;clear hg_ hnew_;(first|rw [← Ny234.out] at ho3|(simp only [Int.reduceToNat] at ho3;rw [← Ny234.out] at ho3));have n0_:=aMk (Kd.R_lower ho3 (below_size (by repeat first|exact HB.out|apply bwA|apply bwN|apply bw1)));have n1_:=aMk (below_step (by repeat first|exact HB.out|apply bwA|apply bwN|apply bw1) hb);clear HB;have HO236:=n0_;have HB:=n1_;clear n0_ n1_;clear hb ho3))
 go_loopg [3,4,5] k (fun kq v3 v4 v5 w' => ∃ (x3_1 : List ByteArray) (x4_1 : Int) (x5_1 : Int),v4 = .int .i64 x4_1 ∧ v5 = .int .i64 x5_1 ∧ Aside0 (spec_l00Words.l0 kq a0 x3_1 x4_1 x5_1 = some r) ∧ Aside0 (kq ≤ k) ∧ Aside0 (Kd.R Kd.string 9 w' w.heap.size (fun _ => True) v3 x3_1) ∧ Aside0 (Below w.heap.size w w'))
 case atStart => exact ⟨(y234),(0),(0),(by first | rfl|(simp;done)|(simp [*];done)|(simp [ne_nil_b];done)|(simp [ne_nil_b, *];done)),(by first | rfl|(simp;done)|(simp [*];done)|(simp [ne_nil_b];done)|(simp [ne_nil_b, *];done)),H',⟨Nat.le_refl _⟩,⟨by (with_reducible repeat (first|apply Kd.R_alloc|apply Kd.R_drewN|apply Kd.R_drew));exact HO236.out⟩,⟨by repeat (first|(with_reducible first|exact HB.out|apply bwA|apply bwN|apply bw1)|exact HB.out)⟩⟩
 case round =>
  clear H'
  try clear p2
  obtain ⟨x3_1,x4_1,x5_1,rfl,rfl,HA,HK1,HO_3,HB⟩:=hrel
  cases gk with
  | zero => exact absurd HA.out (by simp [spec_l00Words.l0])
  | succ k1 =>
   have H:=HA.out
   clear HA
   simp only [spec_l00Words.l0] at H
   by_cases c4 : x5_1 ≤ (a0.size : Int)
   ·rw [if_pos c4] at H
    have c4b0 : decide (x5_1 ≤ (a0.size : Int)) = true:=decide_eq_true c4
    clear c4
    have HC5:=aMk H
    clear H
    go_upto_region 6 with (fail)
    go_cut [22] (fun v22 wc => ∃ (kq : Nat) (x22_4 : Bool),v22 = .bool x22_4 ∧ Aside0 (spec_l00Words.j1 kq a0 x3_1 x4_1 x5_1 x22_4 = some r) ∧ Aside0 (kq ≤ k1) ∧ Aside0 (Kd.R Kd.string 9 wc w.heap.size (fun _ => True) u3 x3_1) ∧ Aside0 (Below w.heap.size w wc))
    case first =>
     have H:=HC5.out
     clear HC5
     by_cases c6 : x5_1 = (a0.size : Int)
     ·rw [if_pos c6] at H
      have c6b0 : (x5_1 == (a0.size : Int)) = true:=beq_iff_eq.mpr c6
      have c6b1 : (x5_1 != (a0.size : Int)) = false:=bne_eq_false_iff_eq.mpr c6
      clear c6
      (first|rw [c6b0]|(simp only [i64_w,i32_w];rw [c6b0]) | skip)
      have H':=aMk H
      clear H
      go_wp2
      go_meet
      case rel => exact ⟨_,(true),(by first | rfl|(simp;done)|(simp [*];done)|(simp [ne_nil_b];done)|(simp [ne_nil_b, *];done)),H',⟨by have:=HK1.out;first | omega|exact Nat.le_refl _⟩,⟨by (with_reducible repeat (first|apply Kd.R_alloc|apply Kd.R_drewN|apply Kd.R_drew));exact HO_3.out⟩,⟨by repeat (first|(with_reducible first|exact HB.out|apply bwA|apply bwN|apply bw1)|exact HB.out)⟩⟩
     ·rw [if_neg c6] at H
      have c6b0 : (x5_1 == (a0.size : Int)) = false:=beq_eq_false_iff_ne.mpr c6
      have c6b1 : (x5_1 != (a0.size : Int)) = true:=bne_iff_ne.mpr c6
      (first|rw [c6b0]|(simp only [i64_w,i32_w];rw [c6b0]) | skip)
      by_cases c7 : 0 ≤ x5_1
      ·rw [if_pos c7] at H
       have c7b0 : decide (0 ≤ x5_1) = true:=decide_eq_true c7
       clear c7
       by_cases c8 : x5_1 < (a0.size : Int)
       ·rw [if_pos c8] at H
        have c8b0 : decide (x5_1 < (a0.size : Int)) = true:=decide_eq_true c8
        clear c8
        have H':=aMk H
        clear H
        have p9 : 0 ≤ (x5_1 : Int):=of_decide_eq_true (by first|(with_reducible assumption) | assumption)
        have q9 : x5_1 < (a0.size : Int):=of_decide_eq_true (by first|(with_reducible assumption) | assumption)
        have hx9:=bt_at a0 x5_1
        replace p9:=eq_true p9
        replace q9:=eq_true q9
        go_wp2
        go_meet
        case rel => exact ⟨_,(((bt a0 x5_1) == 32)),(by first | rfl|(simp;done)|(simp [*];done)|(simp [ne_nil_b];done)|(simp [ne_nil_b, *];done)),H',⟨by have:=HK1.out;first | omega|exact Nat.le_refl _⟩,⟨by (with_reducible repeat (first|apply Kd.R_alloc|apply Kd.R_drewN|apply Kd.R_drew));exact HO_3.out⟩,⟨by repeat (first|(with_reducible first|exact HB.out|apply bwA|apply bwN|apply bw1)|exact HB.out)⟩⟩
       ·rw [if_neg c8] at H
        exact absurd H (by simp)
      ·rw [if_neg c7] at H
       exact absurd H (by simp)
    case rest =>
     clear HC5
     try clear p2
     try clear c4
     try clear c4b0
     try clear c6
     try clear c6b0
     try clear c6b1
     try clear c7
     try clear c7b0
     try clear c8
     try clear c8b0
     try clear p9
     try clear q9
     try clear hx9
     try clear p2
     try clear p9
     try clear q9
     obtain ⟨kq,x22_4,rfl,HA,HJ4,HO_3,HB⟩:=hcut
     cases kq with
     | zero => exact absurd HA.out (by simp [spec_l00Words.j1])
     | succ kj4 =>
      have H:=HA.out
      clear HA
      simp only [spec_l00Words.j1] at H
      by_cases c10 : x22_4 = true
      ·subst c10
       have H1 : (if x5_1 > x4_1 then (if 0 ≤ x4_1 then (if x4_1 ≤ x5_1 then (if x5_1 ≤ (a0.size : Int) then (if x3_1.length < 8796093022208 then (spec_l00Words.l0 kj4 a0 (x3_1 ++ [a0.extract (x4_1 : Int).toNat (x5_1 : Int).toNat]) (wrap64 (x5_1 + 1)) (wrap64 (x5_1 + 1))) else (none)) else (none)) else (none)) else (none)) else (spec_l00Words.l0 kj4 a0 x3_1 (wrap64 (x5_1 + 1)) (wrap64 (x5_1 + 1)))) = some r:=by rw [if_pos rfl] at H;exact H
       clear H
       have H:=H1
       clear H1
       by_cases c11 : x5_1 > x4_1
       ·rw [if_pos c11] at H
        have c11b0 : decide (x4_1 < x5_1) = true:=decide_eq_true c11
        clear c11
        by_cases c12 : 0 ≤ x4_1
        ·rw [if_pos c12] at H
         have c12b0:=eq_true c12
         have c12b1 : decide (0 ≤ x4_1) = true:=decide_eq_true c12
         clear c12
         by_cases c13 : x4_1 ≤ x5_1
         ·rw [if_pos c13] at H
          have c13b0:=eq_true c13
          have c13b1 : decide (x4_1 ≤ x5_1) = true:=decide_eq_true c13
          clear c13
          by_cases c14 : x5_1 ≤ (a0.size : Int)
          ·rw [if_pos c14] at H
           have c14b0:=eq_true c14
           have c14b1 : decide (x5_1 ≤ (a0.size : Int)) = true:=decide_eq_true c14
           clear c14
           by_cases c15 : x3_1.length < 8796093022208
           ·rw [if_pos c15] at H
            have LMc15:=aMk c15
            clear c15
            obtain ⟨y237,hy237⟩ : ∃ y_ : List ByteArray,y_ = (x3_1 ++ [a0.extract (x4_1 : Int).toNat (x5_1 : Int).toNat]):=⟨_,rfl⟩
            replace H : (spec_l00Words.l0 kj4 a0 y237 (wrap64 (x5_1 + 1)) (wrap64 (x5_1 + 1))) = some r:=by first|(rw [hy237];with_reducible exact H)|(have H2_:=(Option.bind_some _ _).symm.trans H;rw [hy237];with_reducible exact H2_)|(have H2_:=(Option.bind_some _ _).symm.trans H;with_reducible exact H2_) | with_reducible exact H|(rw [hy237];exact H)|exact H
            have Ny237:=aMk hy237
            clear hy237
            have H':=aMk H
            clear H
            go_wp2_with (first|((with_reducible refine gate_builtin (b:=.append) (xs:=#[.tmp 26,.tmp 31]) rfl ?_);at_builtin;refine Kd.R_append Kd.string (w0:=w) w.heap.size rfl (.tmp 26) (.tmp 31) 43 9 (.string ⟨#[]⟩) 16 rfl Tryd.underlying43 info9 rfl (by decide) (by omega) u3 x3_1 (a0.extract (x4_1 : Int).toNat (x5_1 : Int).toNat) [.string (a0.extract (x4_1 : Int).toNat (x5_1 : Int).toNat)] (fun _ => True) (fun _ => False) rfl rfl ?aP (fun _ hk => hk.elim) ?aF ?aO ?aB ?aS ?aL ?_;(case aP => exact rfl);(case aB => exact (by repeat first|exact HB.out|apply bwA|apply bwN|apply bw1));(case aF => exact (fun _ _ => trivial));(case aO => exact (by (with_reducible repeat (first|apply Kd.R_alloc|apply Kd.R_drewN|apply Kd.R_drew));exact HO_3.out));(case aS => exact (below_size (by repeat first|exact HB.out|apply bwA|apply bwN|apply bw1)));(case aL => have:=LMc15.out;omega);intro v238 w16 ho hb hg hat;rw [← Ny237.out] at ho;have n0_:=aMk (hb);have n1_:=aMk (ho);clear HB;clear HO_3;have HB:=n0_;have HO239:=n1_;clear n0_ n1_;clear ho hb hg hat))
            go_roundg kj4
            case measure => have:=HK1.out;have:=HJ4.out;omega
            case rel => exact ⟨(y237),(wrap64 (x5_1 + 1)),(wrap64 (x5_1 + 1)),(by first | rfl|(simp;done)|(simp [*];done)|(simp [ne_nil_b];done)|(simp [ne_nil_b, *];done)),(by first | rfl|(simp;done)|(simp [*];done)|(simp [ne_nil_b];done)|(simp [ne_nil_b, *];done)),H',⟨by have:=HK1.out;have:=HJ4.out;omega⟩,⟨by (with_reducible repeat (first|apply Kd.R_alloc|apply Kd.R_drewN|apply Kd.R_drew));exact HO239.out⟩,⟨by repeat (first|(with_reducible first|exact HB.out|apply bwA|apply bwN|apply bw1)|exact HB.out)⟩⟩
           ·rw [if_neg c15] at H
            exact absurd H (by simp)
          ·rw [if_neg c14] at H
           exact absurd H (by simp)
         ·rw [if_neg c13] at H
          exact absurd H (by simp)
        ·rw [if_neg c12] at H
         exact absurd H (by simp)
       ·rw [if_neg c11] at H
        have c11b0 : decide (x4_1 < x5_1) = false:=decide_eq_false c11
        clear c11
        have H':=aMk H
        clear H
        go_wp2
        go_roundg kj4
        case measure => have:=HK1.out;have:=HJ4.out;omega
        case rel => exact ⟨(x3_1),(wrap64 (x5_1 + 1)),(wrap64 (x5_1 + 1)),(by first | rfl|(simp;done)|(simp [*];done)|(simp [ne_nil_b];done)|(simp [ne_nil_b, *];done)),(by first | rfl|(simp;done)|(simp [*];done)|(simp [ne_nil_b];done)|(simp [ne_nil_b, *];done)),H',⟨by have:=HK1.out;have:=HJ4.out;omega⟩,⟨by (with_reducible repeat (first|apply Kd.R_alloc|apply Kd.R_drewN|apply Kd.R_drew));exact HO_3.out⟩,⟨by repeat (first|(with_reducible first|exact HB.out|apply bwA|apply bwN|apply bw1)|exact HB.out)⟩⟩
      ·replace c10:=Bool.eq_false_iff.mpr c10
       subst c10
       have H1 : (spec_l00Words.l0 kj4 a0 x3_1 x4_1 (wrap64 (x5_1 + 1))) = some r:=by rw [if_neg (show ¬ (false = true) by decide)] at H;exact H
       clear H
       have H:=H1
       clear H1
       have H':=aMk H
       clear H
       go_wp2
       go_roundg kj4
       case measure => have:=HK1.out;have:=HJ4.out;omega
       case rel => exact ⟨(x3_1),(x4_1),(wrap64 (x5_1 + 1)),(by first | rfl|(simp;done)|(simp [*];done)|(simp [ne_nil_b];done)|(simp [ne_nil_b, *];done)),(by first | rfl|(simp;done)|(simp [*];done)|(simp [ne_nil_b];done)|(simp [ne_nil_b, *];done)),H',⟨by have:=HK1.out;have:=HJ4.out;omega⟩,⟨by (with_reducible repeat (first|apply Kd.R_alloc|apply Kd.R_drewN|apply Kd.R_drew));exact HO_3.out⟩,⟨by repeat (first|(with_reducible first|exact HB.out|apply bwA|apply bwN|apply bw1)|exact HB.out)⟩⟩
   ·rw [if_neg c4] at H
    have c4b0 : decide (x5_1 ≤ (a0.size : Int)) = false:=decide_eq_false c4
    clear c4
    obtain rfl:=Option.some.inj H
    go_wp2
    go_ret
    exact ⟨_,by first | rfl|(simp [errW_none,errW_some] <;> rfl)|(simp [*,errW_none,errW_some] <;> rfl),by (with_reducible repeat (first|apply Kd.R_alloc|apply Kd.R_drewN|apply Kd.R_drew));exact HO_3.out,by repeat (first|(with_reducible first|exact HB.out|apply bwA|apply bwN|apply bw1)|exact HB.out)⟩
end
section
/-! ### spec_l00Number: function 42 -/
mutual
def spec_l00Number.j0 : Nat → ByteArray → Int → Bool → Option (Int × Bool)
 | 0,_,_,_ => none
 | k + 1,x0,x4,x14 => if x14 = true then (if 1 ≤ (x0.size : Int) then (spec_l00Number.j1 k (x0.extract 1 x0.size) (-1)) else (none)) else (spec_l00Number.j1 k x0 x4)
def spec_l00Number.j1 : Nat → ByteArray → Int → Option (Int × Bool)
 | 0,_,_ => none
 | k + 1,x0,x4 => if (x0.size : Int) = 0 then (spec_l00Number.j2 k x0 x4 true) else (if (x0.size : Int) > 18 then (spec_l00Number.j2 k x0 x4 true) else (if 0 < (x0.size : Int) then (if (bt x0 0) = 48 then (if (x0.size : Int) > 1 then (spec_l00Number.j2 k x0 x4 true) else (spec_l00Number.j2 k x0 x4 (decide (x4 < 0)))) else (spec_l00Number.j2 k x0 x4 false)) else (none)))
def spec_l00Number.j2 : Nat → ByteArray → Int → Bool → Option (Int × Bool)
 | 0,_,_,_ => none
 | k + 1,x0,x4,x38 => if x38 = true then (some (0,false)) else (spec_l00Number.l0 k x0 x4 0 0)
def spec_l00Number.l0 : Nat → ByteArray → Int → Int → Int → Option (Int × Bool)
 | 0,_,_,_,_ => none
 | k + 1,x0,x4,x5,x6 => if x6 < (x0.size : Int) then (if 0 ≤ x6 then (if (bt x0 x6) < 48 then (some (0,false)) else (if (bt x0 x6) > 57 then (some (0,false)) else (spec_l00Number.l0 k x0 x4 (wrap64 ((wrap64 ((wrap64 (x5 * 10)) + (wrap64 (bt x0 x6)))) - 48)) (wrap64 (x6 + 1))))) else (none)) else (some (wrap64 (x4 * x5),true))
end
def spec_l00Number.f (k : Nat) (a0 : ByteArray) : Option (Int × Bool):=if (a0.size : Int) > 0 then (if 0 < (a0.size : Int) then (spec_l00Number.j0 k a0 1 ((bt a0 0) == 45)) else (none)) else (spec_l00Number.j0 k a0 1 false)
theorem spec_l00Number.mono_l : ∀ k,(∀ y0 y1 y2,LeO (spec_l00Number.j0 k y0 y1 y2) (spec_l00Number.j0 (k + 1) y0 y1 y2)) ∧ (∀ y0 y1,LeO (spec_l00Number.j1 k y0 y1) (spec_l00Number.j1 (k + 1) y0 y1)) ∧ (∀ y0 y1 y2,LeO (spec_l00Number.j2 k y0 y1 y2) (spec_l00Number.j2 (k + 1) y0 y1 y2)) ∧ (∀ y0 y1 y2 y3,LeO (spec_l00Number.l0 k y0 y1 y2 y3) (spec_l00Number.l0 (k + 1) y0 y1 y2 y3))
 | 0 => ⟨fun _ _ _ r h => by simp [spec_l00Number.j0] at h,fun _ _ r h => by simp [spec_l00Number.j1] at h,fun _ _ _ r h => by simp [spec_l00Number.j2] at h,fun _ _ _ _ r h => by simp [spec_l00Number.l0] at h⟩
 | k + 1 => by
  obtain ⟨ih0,ih1,ih2,ih3⟩:=spec_l00Number.mono_l k
  refine ⟨?_,?_,?_,?_⟩
  ·intro y0 y1 y2
   unfold spec_l00Number.j0
   repeat' first
   | (with_reducible exact ih0 _ _ _)
   | (with_reducible exact ih1 _ _)
   | (with_reducible exact ih2 _ _ _)
   | (with_reducible exact ih3 _ _ _ _)
   | (with_reducible exact LeO.refl _)
   | (with_reducible exact LeO.none _)
   | (with_reducible refine LeO.ite ?_ ?_)
   | (with_reducible refine LeO.bind ?_ (fun _ => ?_))
   | exact ih0 _ _ _
   | exact ih1 _ _
   | exact ih2 _ _ _
   | exact ih3 _ _ _ _
   | exact LeO.none _
   | refine LeO.ite ?_ ?_
   | refine LeO.bind ?_ (fun _ => ?_)
  ·intro y0 y1
   unfold spec_l00Number.j1
   repeat' first
   | (with_reducible exact ih0 _ _ _)
   | (with_reducible exact ih1 _ _)
   | (with_reducible exact ih2 _ _ _)
   | (with_reducible exact ih3 _ _ _ _)
   | (with_reducible exact LeO.refl _)
   | (with_reducible exact LeO.none _)
   | (with_reducible refine LeO.ite ?_ ?_)
   | (with_reducible refine LeO.bind ?_ (fun _ => ?_))
   | exact ih0 _ _ _
   | exact ih1 _ _
   | exact ih2 _ _ _
   | exact ih3 _ _ _ _
   | exact LeO.none _
   | refine LeO.ite ?_ ?_
   | refine LeO.bind ?_ (fun _ => ?_)
  ·intro y0 y1 y2
   unfold spec_l00Number.j2
   repeat' first
   | (with_reducible exact ih0 _ _ _)
   | (with_reducible exact ih1 _ _)
   | (with_reducible exact ih2 _ _ _)
   | (with_reducible exact ih3 _ _ _ _)
   | (with_reducible exact LeO.refl _)
   | (with_reducible exact LeO.none _)
   | (with_reducible refine LeO.ite ?_ ?_)
   | (with_reducible refine LeO.bind ?_ (fun _ => ?_))
   | exact ih0 _ _ _
   | exact ih1 _ _
   | exact ih2 _ _ _
   | exact ih3 _ _ _ _
   | exact LeO.none _
   | refine LeO.ite ?_ ?_
   | refine LeO.bind ?_ (fun _ => ?_)
  ·intro y0 y1 y2 y3
   unfold spec_l00Number.l0
   repeat' first
   | (with_reducible exact ih0 _ _ _)
   | (with_reducible exact ih1 _ _)
   | (with_reducible exact ih2 _ _ _)
   | (with_reducible exact ih3 _ _ _ _)
   | (with_reducible exact LeO.refl _)
   | (with_reducible exact LeO.none _)
   | (with_reducible refine LeO.ite ?_ ?_)
   | (with_reducible refine LeO.bind ?_ (fun _ => ?_))
   | exact ih0 _ _ _
   | exact ih1 _ _
   | exact ih2 _ _ _
   | exact ih3 _ _ _ _
   | exact LeO.none _
   | refine LeO.ite ?_ ?_
   | refine LeO.bind ?_ (fun _ => ?_)
theorem spec_l00Number.mono : ∀ a0 k,LeO (spec_l00Number.f k a0) (spec_l00Number.f (k + 1) a0):=by
 intro a0 k
 obtain ⟨ih0,ih1,ih2,ih3⟩:=spec_l00Number.mono_l k
 unfold spec_l00Number.f
 repeat' first
   | (with_reducible exact ih0 _ _ _)
   | (with_reducible exact ih1 _ _)
   | (with_reducible exact ih2 _ _ _)
   | (with_reducible exact ih3 _ _ _ _)
   | (with_reducible exact LeO.refl _)
   | (with_reducible exact LeO.none _)
   | (with_reducible refine LeO.ite ?_ ?_)
   | (with_reducible refine LeO.bind ?_ (fun _ => ?_))
   | exact ih0 _ _ _
   | exact ih1 _ _
   | exact ih2 _ _ _
   | exact ih3 _ _ _ _
   | exact LeO.none _
   | refine LeO.ite ?_ ?_
   | refine LeO.bind ?_ (fun _ => ?_)
set_option maxHeartbeats 8000000 in
set_option maxRecDepth 100000 in
theorem spec_l00Number.calls (k : Nat) (a0 : ByteArray) (r1 : Int) (r2 : Bool) (w : World) (h : spec_l00Number.f k a0 = some (r1,r2)) :
  Calls Tryd.prog 42 #[.string a0] w fun e w' => e = .returned (.tuple #[.int .i64 r1,.bool r2]) ∧ Drawn0 w w':=by
 have H : (if (a0.size : Int) > 0 then (if 0 < (a0.size : Int) then (spec_l00Number.j0 k a0 1 ((bt a0 0) == 45)) else (none)) else (spec_l00Number.j0 k a0 1 false)) = some (r1,r2):=h
 clear h
 have HC2:=aMk H
 clear H
 go_enter Tryd.func42,Tryd.ntmps42
 go_upto_region 2 with (fail)
 go_cut [14] (fun v14 wc => ∃ (kq : Nat) (x14_1 : Bool),v14 = .bool x14_1 ∧ Aside0 (spec_l00Number.j0 kq a0 1 x14_1 = some (r1,r2)) ∧ Aside0 (kq ≤ k) ∧ Drawn0 w wc)
 case first =>
  have H:=HC2.out
  clear HC2
  by_cases c3 : (a0.size : Int) > 0
  ·rw [if_pos c3] at H
   have c3b0 : decide (0 < (a0.size : Int)) = true:=decide_eq_true c3
   have c3b1 : decide (0 < a0.size) = true:=decide_eq_true (by omega)
   clear c3
   (first|rw [c3b0]|(simp only [i64_w,i32_w];rw [c3b0]) | skip)
   by_cases c4 : 0 < (a0.size : Int)
   ·rw [if_pos c4] at H
    have c4b0 : decide (0 < (a0.size : Int)) = true:=decide_eq_true c4
    have c4b1 : decide (0 < a0.size) = true:=decide_eq_true (by omega)
    clear c4
    have H':=aMk H
    clear H
    have p5 : 0 ≤ (0 : Int):=(by omega)
    have q5 : 0 < a0.size:=(by have : (0 : Int) < (a0.size : Int):=of_decide_eq_true (by first|(with_reducible assumption) | assumption);omega)
    have hx5 : ∀ h : 0 < a0.size,((a0[0]'h).toNat : Int) = bt a0 0:=bt_at a0 0
    clear p5
    have qi5 : (0 < (a0.size : Int)) = True:=eq_true (of_decide_eq_true (by first|(with_reducible assumption) | assumption))
    replace q5:=eq_true q5
    go_wp2
    go_meet
    case rel => exact ⟨_,(((bt a0 0) == 45)),(by first | rfl|(simp;done)|(simp [*];done)|(simp [ne_nil_b];done)|(simp [ne_nil_b, *];done)),H',⟨by first | omega|exact Nat.le_refl _⟩,by repeat (first|exact Drawn0.refl _|apply Drawn0.step)⟩
   ·rw [if_neg c4] at H
    exact absurd H (by simp)
  ·rw [if_neg c3] at H
   have c3b0 : decide (0 < (a0.size : Int)) = false:=decide_eq_false c3
   have c3b1 : decide (0 < a0.size) = false:=decide_eq_false (by omega)
   clear c3
   (first|rw [c3b0]|(simp only [i64_w,i32_w];rw [c3b0]) | skip)
   have H':=aMk H
   clear H
   go_wp2
   go_meet
   case rel => exact ⟨_,(false),(by first | rfl|(simp;done)|(simp [*];done)|(simp [ne_nil_b];done)|(simp [ne_nil_b, *];done)),H',⟨by first | omega|exact Nat.le_refl _⟩,by repeat (first|exact Drawn0.refl _|apply Drawn0.step)⟩
 case rest =>
  clear HC2
  try clear p2
  try clear c3
  try clear c3b0
  try clear c3b1
  try clear c4
  try clear c4b0
  try clear c4b1
  try clear p5
  try clear q5
  try clear hx5
  try clear qi5
  try clear p5
  try clear q5
  obtain ⟨kq,x14_1,rfl,HA,HJ1,⟨mc1,rfl⟩⟩:=hcut
  cases kq with
  | zero => exact absurd HA.out (by simp [spec_l00Number.j0])
  | succ kj1 =>
   have H:=HA.out
   clear HA
   simp only [spec_l00Number.j0] at H
   have HC6:=aMk H
   clear H
   go_upto_if 14 with (fail)
   go_cut [0,4] (fun v0 v4 wc => ∃ (kq : Nat) (x0_5 : ByteArray) (x4_5 : Int),v0 = .string x0_5 ∧ v4 = .int .i64 x4_5 ∧ Aside0 (spec_l00Number.j1 kq x0_5 x4_5 = some (r1,r2)) ∧ Aside0 (kq ≤ kj1) ∧ Drawn0 w wc)
   case first =>
    have H:=HC6.out
    clear HC6
    by_cases c7 : x14_1 = true
    ·subst c7
     have H1 : (if 1 ≤ (a0.size : Int) then (spec_l00Number.j1 kj1 (a0.extract 1 a0.size) (-1)) else (none)) = some (r1,r2):=by rw [if_pos rfl] at H;exact H
     clear H
     have H:=H1
     clear H1
     by_cases c8 : 1 ≤ (a0.size : Int)
     ·rw [if_pos c8] at H
      have c8b0:=eq_true c8
      have c8b1 : decide (1 ≤ (a0.size : Int)) = true:=decide_eq_true c8
      clear c8
      have H':=aMk H
      clear H
      go_wp2
      go_meet
      case rel => exact ⟨_,(a0.extract 1 a0.size),((-1)),(by first | rfl|(simp;done)|(simp [*];done)|(simp [ne_nil_b];done)|(simp [ne_nil_b, *];done)),(by first | rfl|(simp;done)|(simp [*];done)|(simp [ne_nil_b];done)|(simp [ne_nil_b, *];done)),H',⟨by have:=HJ1.out;first | omega|exact Nat.le_refl _⟩,by repeat (first|exact Drawn0.refl _|apply Drawn0.step)⟩
     ·rw [if_neg c8] at H
      exact absurd H (by simp)
    ·replace c7:=Bool.eq_false_iff.mpr c7
     subst c7
     have H1 : (spec_l00Number.j1 kj1 a0 1) = some (r1,r2):=by rw [if_neg (show ¬ (false = true) by decide)] at H;exact H
     clear H
     have H:=H1
     clear H1
     have H':=aMk H
     clear H
     go_wp2
     go_meet
     case rel => exact ⟨_,(a0),(1),(by first | rfl|(simp;done)|(simp [*];done)|(simp [ne_nil_b];done)|(simp [ne_nil_b, *];done)),(by first | rfl|(simp;done)|(simp [*];done)|(simp [ne_nil_b];done)|(simp [ne_nil_b, *];done)),H',⟨by have:=HJ1.out;first | omega|exact Nat.le_refl _⟩,by repeat (first|exact Drawn0.refl _|apply Drawn0.step)⟩
   case rest =>
    clear HC6
    try clear c1
    try clear p2
    try clear c3
    try clear c3b0
    try clear c3b1
    try clear c4
    try clear c4b0
    try clear c4b1
    try clear p5
    try clear q5
    try clear hx5
    try clear qi5
    try clear c7
    try clear c8
    try clear c8b0
    try clear c8b1
    try clear p2
    try clear p5
    try clear q5
    obtain ⟨kq,x0_5,x4_5,rfl,rfl,HA,HJ5,⟨mc5,rfl⟩⟩:=hcut
    cases kq with
    | zero => exact absurd HA.out (by simp [spec_l00Number.j1])
    | succ kj5 =>
     have H:=HA.out
     clear HA
     simp only [spec_l00Number.j1] at H
     have HC9:=aMk H
     clear H
     go_upto_region 5 with (fail)
     go_cut [38] (fun v38 wc => ∃ (kq : Nat) (x38_8 : Bool),v38 = .bool x38_8 ∧ Aside0 (spec_l00Number.j2 kq x0_5 x4_5 x38_8 = some (r1,r2)) ∧ Aside0 (kq ≤ kj5) ∧ Drawn0 w wc)
     case first =>
      have H:=HC9.out
      clear HC9
      by_cases c10 : (x0_5.size : Int) = 0
      ·rw [if_pos c10] at H
       have c10b0 : ((x0_5.size : Int) == 0) = true:=beq_iff_eq.mpr c10
       have c10b1 : ((x0_5.size : Int) != 0) = false:=bne_eq_false_iff_eq.mpr c10
       clear c10
       (first|rw [c10b0]|(simp only [i64_w,i32_w];rw [c10b0]) | skip)
       have H':=aMk H
       clear H
       go_wp2
       go_meet
       case rel => exact ⟨_,(true),(by first | rfl|(simp;done)|(simp [*];done)|(simp [ne_nil_b];done)|(simp [ne_nil_b, *];done)),H',⟨by have:=HJ1.out;have:=HJ5.out;first | omega|exact Nat.le_refl _⟩,by repeat (first|exact Drawn0.refl _|apply Drawn0.step)⟩
      ·rw [if_neg c10] at H
       have c10b0 : ((x0_5.size : Int) == 0) = false:=beq_eq_false_iff_ne.mpr c10
       have c10b1 : ((x0_5.size : Int) != 0) = true:=bne_iff_ne.mpr c10
       (first|rw [c10b0]|(simp only [i64_w,i32_w];rw [c10b0]) | skip)
       by_cases c11 : (x0_5.size : Int) > 18
       ·rw [if_pos c11] at H
        have c11b0 : decide (18 < (x0_5.size : Int)) = true:=decide_eq_true c11
        have c11b1 : decide (18 < x0_5.size) = true:=decide_eq_true (by omega)
        clear c11
        have H':=aMk H
        clear H
        go_wp2
        go_meet
        case rel => exact ⟨_,(true),(by first | rfl|(simp;done)|(simp [*];done)|(simp [ne_nil_b];done)|(simp [ne_nil_b, *];done)),H',⟨by have:=HJ1.out;have:=HJ5.out;first | omega|exact Nat.le_refl _⟩,by repeat (first|exact Drawn0.refl _|apply Drawn0.step)⟩
       ·rw [if_neg c11] at H
        have c11b0 : decide (18 < (x0_5.size : Int)) = false:=decide_eq_false c11
        have c11b1 : decide (18 < x0_5.size) = false:=decide_eq_false (by omega)
        clear c11
        by_cases c12 : 0 < (x0_5.size : Int)
        ·rw [if_pos c12] at H
         have c12b0 : decide (0 < (x0_5.size : Int)) = true:=decide_eq_true c12
         have c12b1 : decide (0 < x0_5.size) = true:=decide_eq_true (by omega)
         clear c12
         by_cases c14 : (bt x0_5 0) = 48
         ·rw [if_pos c14] at H
          have c14b0 : ((bt x0_5 0) == 48) = true:=beq_iff_eq.mpr c14
          have c14b1 : ((bt x0_5 0) != 48) = false:=bne_eq_false_iff_eq.mpr c14
          clear c14
          by_cases c15 : (x0_5.size : Int) > 1
          ·rw [if_pos c15] at H
           have c15b0 : decide (1 < (x0_5.size : Int)) = true:=decide_eq_true c15
           have c15b1 : decide (1 < x0_5.size) = true:=decide_eq_true (by omega)
           clear c15
           have H':=aMk H
           clear H
           have p13 : 0 ≤ (0 : Int):=(by omega)
           have q13 : 0 < x0_5.size:=(by have : (0 : Int) < (x0_5.size : Int):=of_decide_eq_true (by first|(with_reducible assumption) | assumption);omega)
           have hx13 : ∀ h : 0 < x0_5.size,((x0_5[0]'h).toNat : Int) = bt x0_5 0:=bt_at x0_5 0
           clear p13
           have qi13 : (0 < (x0_5.size : Int)) = True:=eq_true (of_decide_eq_true (by first|(with_reducible assumption) | assumption))
           replace q13:=eq_true q13
           go_wp2
           go_meet
           case rel => exact ⟨_,(true),(by first | rfl|(simp;done)|(simp [*];done)|(simp [ne_nil_b];done)|(simp [ne_nil_b, *];done)),H',⟨by have:=HJ1.out;have:=HJ5.out;first | omega|exact Nat.le_refl _⟩,by repeat (first|exact Drawn0.refl _|apply Drawn0.step)⟩
          ·rw [if_neg c15] at H
           have c15b0 : decide (1 < (x0_5.size : Int)) = false:=decide_eq_false c15
           have c15b1 : decide (1 < x0_5.size) = false:=decide_eq_false (by omega)
           clear c15
           have H':=aMk H
           clear H
           have p13 : 0 ≤ (0 : Int):=(by omega)
           have q13 : 0 < x0_5.size:=(by have : (0 : Int) < (x0_5.size : Int):=of_decide_eq_true (by first|(with_reducible assumption) | assumption);omega)
           have hx13 : ∀ h : 0 < x0_5.size,((x0_5[0]'h).toNat : Int) = bt x0_5 0:=bt_at x0_5 0
           clear p13
           have qi13 : (0 < (x0_5.size : Int)) = True:=eq_true (of_decide_eq_true (by first|(with_reducible assumption) | assumption))
           replace q13:=eq_true q13
           go_wp2
           go_meet
           case rel => exact ⟨_,(decide (x4_5 < 0)),(by first | rfl|(simp;done)|(simp [*];done)|(simp [ne_nil_b];done)|(simp [ne_nil_b, *];done)),H',⟨by have:=HJ1.out;have:=HJ5.out;first | omega|exact Nat.le_refl _⟩,by repeat (first|exact Drawn0.refl _|apply Drawn0.step)⟩
         ·rw [if_neg c14] at H
          have c14b0 : ((bt x0_5 0) == 48) = false:=beq_eq_false_iff_ne.mpr c14
          have c14b1 : ((bt x0_5 0) != 48) = true:=bne_iff_ne.mpr c14
          have H':=aMk H
          clear H
          have p13 : 0 ≤ (0 : Int):=(by omega)
          have q13 : 0 < x0_5.size:=(by have : (0 : Int) < (x0_5.size : Int):=of_decide_eq_true (by first|(with_reducible assumption) | assumption);omega)
          have hx13 : ∀ h : 0 < x0_5.size,((x0_5[0]'h).toNat : Int) = bt x0_5 0:=bt_at x0_5 0
          clear p13
          have qi13 : (0 < (x0_5.size : Int)) = True:=eq_true (of_decide_eq_true (by first|(with_reducible assumption) | assumption))
          replace q13:=eq_true q13
          go_wp2
          go_meet
          case rel => exact ⟨_,(false),(by first | rfl|(simp;done)|(simp [*];done)|(simp [ne_nil_b];done)|(simp [ne_nil_b, *];done)),H',⟨by have:=HJ1.out;have:=HJ5.out;first | omega|exact Nat.le_refl _⟩,by repeat (first|exact Drawn0.refl _|apply Drawn0.step)⟩
        ·rw [if_neg c12] at H
         exact absurd H (by simp)
     case rest =>
      clear HC9
      try clear c1
      try clear p1
      try clear q1
      try clear hx1
      try clear qi1
      try clear p2
      try clear c3
      try clear c3b0
      try clear c3b1
      try clear c4
      try clear c4b0
      try clear c4b1
      try clear c5
      try clear p5
      try clear q5
      try clear hx5
      try clear qi5
      try clear c7
      try clear c8
      try clear c8b0
      try clear c8b1
      try clear c10
      try clear c10b0
      try clear c10b1
      try clear c11
      try clear c11b0
      try clear c11b1
      try clear c12
      try clear c12b0
      try clear c12b1
      try clear p13
      try clear q13
      try clear hx13
      try clear qi13
      try clear c14
      try clear c14b0
      try clear c14b1
      try clear c15
      try clear c15b0
      try clear c15b1
      try clear p13
      try clear p2
      try clear p5
      try clear q13
      try clear q5
      obtain ⟨kq,x38_8,rfl,HA,HJ8,⟨mc8,rfl⟩⟩:=hcut
      cases kq with
      | zero => exact absurd HA.out (by simp [spec_l00Number.j2])
      | succ kj8 =>
       have H:=HA.out
       clear HA
       simp only [spec_l00Number.j2] at H
       by_cases c16 : x38_8 = true
       ·subst c16
        have H1 : (some (0,false)) = some (r1,r2):=by rw [if_pos rfl] at H;exact H
        clear H
        have H:=H1
        clear H1
        simp only [Option.some.injEq,Prod.mk.injEq] at H
        obtain ⟨rfl,rfl⟩:=H
        go_wp2
        go_ret2
        exact ⟨by first | rfl|(simp;done)|(simp [*];done)|(simp [ne_nil_b];done)|(simp [ne_nil_b, *];done),by repeat (first|exact Drawn0.refl _|apply Drawn0.step)⟩
       ·replace c16:=Bool.eq_false_iff.mpr c16
        subst c16
        have H1 : (spec_l00Number.l0 kj8 x0_5 x4_5 0 0) = some (r1,r2):=by rw [if_neg (show ¬ (false = true) by decide)] at H;exact H
        clear H
        have H:=H1
        clear H1
        have H':=aMk H
        clear H
        go_wp2
        go_loopg [5,6] kj8 (fun kq v5 v6 w' => ∃ (x5_4 : Int) (x6_4 : Int),v5 = .int .i64 x5_4 ∧ v6 = .int .i64 x6_4 ∧ Aside0 (spec_l00Number.l0 kq x0_5 x4_5 x5_4 x6_4 = some (r1,r2)) ∧ Aside0 (kq ≤ kj8) ∧ Drawn0 w w')
        case atStart => exact ⟨(0),(0),(by first | rfl|(simp;done)|(simp [*];done)|(simp [ne_nil_b];done)|(simp [ne_nil_b, *];done)),(by first | rfl|(simp;done)|(simp [*];done)|(simp [ne_nil_b];done)|(simp [ne_nil_b, *];done)),H',⟨Nat.le_refl _⟩,by repeat (first|exact Drawn0.refl _|apply Drawn0.step)⟩
        case round =>
         clear H'
         try clear c1
         try clear p1
         try clear q1
         try clear hx1
         try clear qi1
         try clear p2
         try clear c3
         try clear c3b0
         try clear c3b1
         try clear c4
         try clear c4b0
         try clear c4b1
         try clear c5
         try clear p5
         try clear q5
         try clear hx5
         try clear qi5
         try clear c7
         try clear c8
         try clear c8b0
         try clear c8b1
         try clear c10
         try clear c10b0
         try clear c10b1
         try clear c11
         try clear c11b0
         try clear c11b1
         try clear c12
         try clear c12b0
         try clear c12b1
         try clear p13
         try clear q13
         try clear hx13
         try clear qi13
         try clear c14
         try clear c14b0
         try clear c14b1
         try clear c15
         try clear c15b0
         try clear c15b1
         try clear c16
         try clear p1
         try clear p13
         try clear p2
         try clear p5
         try clear q1
         try clear q13
         try clear q5
         obtain ⟨x5_4,x6_4,rfl,rfl,HA,HK4,⟨m4,rfl⟩⟩:=hrel
         cases gk with
         | zero => exact absurd HA.out (by simp [spec_l00Number.l0])
         | succ k4 =>
          have H:=HA.out
          clear HA
          simp only [spec_l00Number.l0] at H
          by_cases c17 : x6_4 < (x0_5.size : Int)
          ·rw [if_pos c17] at H
           have c17b0 : decide (x6_4 < (x0_5.size : Int)) = true:=decide_eq_true c17
           clear c17
           by_cases c18 : 0 ≤ x6_4
           ·rw [if_pos c18] at H
            have c18b0 : decide (0 ≤ x6_4) = true:=decide_eq_true c18
            clear c18
            by_cases c20 : (bt x0_5 x6_4) < 48
            ·rw [if_pos c20] at H
             have c20b0 : decide ((bt x0_5 x6_4) < 48) = true:=decide_eq_true c20
             clear c20
             simp only [Option.some.injEq,Prod.mk.injEq] at H
             obtain ⟨rfl,rfl⟩:=H
             have p19 : 0 ≤ (x6_4 : Int):=of_decide_eq_true (by first|(with_reducible assumption) | assumption)
             have q19 : x6_4 < (x0_5.size : Int):=of_decide_eq_true (by first|(with_reducible assumption) | assumption)
             have hx19:=bt_at x0_5 x6_4
             replace p19:=eq_true p19
             replace q19:=eq_true q19
             go_wp2
             go_ret2
             exact ⟨by first | rfl|(simp;done)|(simp [*];done)|(simp [ne_nil_b];done)|(simp [ne_nil_b, *];done),by repeat (first|exact Drawn0.refl _|apply Drawn0.step)⟩
            ·rw [if_neg c20] at H
             have c20b0 : decide ((bt x0_5 x6_4) < 48) = false:=decide_eq_false c20
             clear c20
             by_cases c22 : (bt x0_5 x6_4) > 57
             ·rw [if_pos c22] at H
              have c22b0 : decide (57 < (bt x0_5 x6_4)) = true:=decide_eq_true c22
              clear c22
              simp only [Option.some.injEq,Prod.mk.injEq] at H
              obtain ⟨rfl,rfl⟩:=H
              have p19 : 0 ≤ (x6_4 : Int):=of_decide_eq_true (by first|(with_reducible assumption) | assumption)
              have q19 : x6_4 < (x0_5.size : Int):=of_decide_eq_true (by first|(with_reducible assumption) | assumption)
              have hx19:=bt_at x0_5 x6_4
              replace p19:=eq_true p19
              replace q19:=eq_true q19
              have p21 : 0 ≤ (x6_4 : Int):=of_decide_eq_true (by first|(with_reducible assumption) | assumption)
              have q21 : x6_4 < (x0_5.size : Int):=of_decide_eq_true (by first|(with_reducible assumption) | assumption)
              have hx21:=bt_at x0_5 x6_4
              replace p21:=eq_true p21
              replace q21:=eq_true q21
              go_wp2
              go_ret2
              exact ⟨by first | rfl|(simp;done)|(simp [*];done)|(simp [ne_nil_b];done)|(simp [ne_nil_b, *];done),by repeat (first|exact Drawn0.refl _|apply Drawn0.step)⟩
             ·rw [if_neg c22] at H
              have c22b0 : decide (57 < (bt x0_5 x6_4)) = false:=decide_eq_false c22
              clear c22
              have H':=aMk H
              clear H
              have p19 : 0 ≤ (x6_4 : Int):=of_decide_eq_true (by first|(with_reducible assumption) | assumption)
              have q19 : x6_4 < (x0_5.size : Int):=of_decide_eq_true (by first|(with_reducible assumption) | assumption)
              have hx19:=bt_at x0_5 x6_4
              replace p19:=eq_true p19
              replace q19:=eq_true q19
              have p21 : 0 ≤ (x6_4 : Int):=of_decide_eq_true (by first|(with_reducible assumption) | assumption)
              have q21 : x6_4 < (x0_5.size : Int):=of_decide_eq_true (by first|(with_reducible assumption) | assumption)
              have hx21:=bt_at x0_5 x6_4
              replace p21:=eq_true p21
              replace q21:=eq_true q21
              have p23 : 0 ≤ (x6_4 : Int):=of_decide_eq_true (by first|(with_reducible assumption) | assumption)
              have q23 : x6_4 < (x0_5.size : Int):=of_decide_eq_true (by first|(with_reducible assumption) | assumption)
              have hx23:=bt_at x0_5 x6_4
              replace p23:=eq_true p23
              replace q23:=eq_true q23
              go_wp2
              go_roundg k4
              case measure => have:=HJ1.out;have:=HJ5.out;have:=HJ8.out;have:=HK4.out;omega
              case rel => exact ⟨(wrap64 ((wrap64 ((wrap64 (x5_4 * 10)) + (wrap64 (bt x0_5 x6_4)))) - 48)),(wrap64 (x6_4 + 1)),(by first | rfl|(simp;done)|(simp [*];done)|(simp [ne_nil_b];done)|(simp [ne_nil_b, *];done)),(by first | rfl|(simp;done)|(simp [*];done)|(simp [ne_nil_b];done)|(simp [ne_nil_b, *];done)),H',⟨by have:=HJ1.out;have:=HJ5.out;have:=HJ8.out;have:=HK4.out;omega⟩,by repeat (first|exact Drawn0.refl _|apply Drawn0.step)⟩
           ·rw [if_neg c18] at H
            exact absurd H (by simp)
          ·rw [if_neg c17] at H
           have c17b0 : decide (x6_4 < (x0_5.size : Int)) = false:=decide_eq_false c17
           clear c17
           simp only [Option.some.injEq,Prod.mk.injEq] at H
           obtain ⟨rfl,rfl⟩:=H
           go_wp2
           go_ret2
           exact ⟨by first | rfl|(simp;done)|(simp [*];done)|(simp [ne_nil_b];done)|(simp [ne_nil_b, *];done),by repeat (first|exact Drawn0.refl _|apply Drawn0.step)⟩
end
section
/-! ### spec_l00Cut: function 59 -/
def spec_l00Cut.l0 : Nat → ByteArray → Int → List ByteArray → Int → Int → Option (List ByteArray)
 | 0,_,_,_,_,_ => none
 | k + 1,x0,x1,x5,x6,x7 => if x7 < (x0.size : Int) then (if 0 ≤ x7 then (if (bt x0 x7) = x1 then (if 0 ≤ x6 then (if x6 ≤ x7 then (if x7 ≤ (x0.size : Int) then (if x5.length < 8796093022208 then (spec_l00Cut.l0 k x0 x1 (x5 ++ [x0.extract (x6 : Int).toNat (x7 : Int).toNat]) (wrap64 (x7 + 1)) (wrap64 (x7 + 1))) else (none)) else (none)) else (none)) else (none)) else (spec_l00Cut.l0 k x0 x1 x5 x6 (wrap64 (x7 + 1)))) else (none)) else (if 0 ≤ x6 then (if x6 ≤ (x0.size : Int) then (if x5.length < 8796093022208 then (some (x5 ++ [x0.extract (x6 : Int).toNat x0.size])) else (none)) else (none)) else (none))
def spec_l00Cut.f (k : Nat) (a0 : ByteArray) (a1 : Int) : Option (List ByteArray):=spec_l00Cut.l0 k a0 a1 (([] : List ByteArray)) 0 0
theorem spec_l00Cut.mono_l : ∀ k,(∀ y0 y1 y2 y3 y4,LeO (spec_l00Cut.l0 k y0 y1 y2 y3 y4) (spec_l00Cut.l0 (k + 1) y0 y1 y2 y3 y4))
 | 0 => fun _ _ _ _ _ r h => by simp [spec_l00Cut.l0] at h
 | k + 1 => by
  have ih0:=spec_l00Cut.mono_l k
  ·intro y0 y1 y2 y3 y4
   unfold spec_l00Cut.l0
   repeat' first
   | (with_reducible exact ih0 _ _ _ _ _)
   | (with_reducible exact LeO.refl _)
   | (with_reducible exact LeO.none _)
   | (with_reducible refine LeO.ite ?_ ?_)
   | (with_reducible refine LeO.bind ?_ (fun _ => ?_))
   | exact ih0 _ _ _ _ _
   | exact LeO.none _
   | refine LeO.ite ?_ ?_
   | refine LeO.bind ?_ (fun _ => ?_)
theorem spec_l00Cut.mono : ∀ a0 a1 k,LeO (spec_l00Cut.f k a0 a1) (spec_l00Cut.f (k + 1) a0 a1):=by
 intro a0 a1 k
 have ih0:=spec_l00Cut.mono_l k
 unfold spec_l00Cut.f
 repeat' first
   | (with_reducible exact ih0 _ _ _ _ _)
   | (with_reducible exact LeO.refl _)
   | (with_reducible exact LeO.none _)
   | (with_reducible refine LeO.ite ?_ ?_)
   | (with_reducible refine LeO.bind ?_ (fun _ => ?_))
   | exact ih0 _ _ _ _ _
   | exact LeO.none _
   | refine LeO.ite ?_ ?_
   | refine LeO.bind ?_ (fun _ => ?_)
set_option maxHeartbeats 8000000 in
set_option maxRecDepth 100000 in
theorem spec_l00Cut.calls (k : Nat) (a0 : ByteArray) (a1 : Int) (r : List ByteArray) (w : World) (h : spec_l00Cut.f k a0 a1 = some r) :
  Calls Tryd.prog 59 #[.string a0,.int .u8 a1] w fun e w' => ∃ v0_ : Value,e = .returned (v0_) ∧ Kd.R Kd.string 9 w' w.heap.size (fun _ => True) v0_ r ∧ Below w.heap.size w w':=by
 have HB:=aMk (Below.refl w.heap.size w)
 have H : (spec_l00Cut.l0 k a0 a1 (([] : List ByteArray)) 0 0) = some r:=h
 clear h
 obtain ⟨y240,hy240⟩ : ∃ y_ : List ByteArray,y_ = (([] : List ByteArray)):=⟨_,rfl⟩
 replace H : (spec_l00Cut.l0 k a0 a1 y240 0 0) = some r:=by first|(rw [hy240];with_reducible exact H)|(have H2_:=(Option.bind_some _ _).symm.trans H;rw [hy240];with_reducible exact H2_)|(have H2_:=(Option.bind_some _ _).symm.trans H;with_reducible exact H2_) | with_reducible exact H|(rw [hy240];exact H)|exact H
 have Ny240:=aMk hy240
 clear hy240
 have H':=aMk H
 clear H
 go_enter Tryd.func59,Tryd.ntmps59
 go_wp2_with (first|((with_reducible refine gate_dst (N:=8) rfl ?_);refine Kd.R_lit Kd.string _ 9 ?hg (N:=8) ?hd (xs:=([] : List ByteArray)) (inner:=[]) (ok:=fun _ => True) (okp:=fun _ => True) ?hr ?hp (fun _ hk => hk) trivial (Below.refl _ _) (Nat.le_refl _) (by simp) ?_;(case hd => rfl);(case hg => rfl);(case hr => first|(go_simp;done)|(go_simp;rfl));(case hp => exact (Reps.none _ _));intro v241 w3 ho4 hb hg_ hnew_;clear hg_ hnew_;(first|rw [← Ny240.out] at ho4|(simp only [Int.reduceToNat] at ho4;rw [← Ny240.out] at ho4));have n0_:=aMk (Kd.R_lower ho4 (below_size (by repeat first|exact HB.out|apply bwA|apply bwN|apply bw1)));have n1_:=aMk (below_step (by repeat first|exact HB.out|apply bwA|apply bwN|apply bw1) hb);clear HB;have HO242:=n0_;have HB:=n1_;clear n0_ n1_;clear hb ho4))
 go_loopg [5,6,7] k (fun kq v5 v6 v7 w' => ∃ (x5_1 : List ByteArray) (x6_1 : Int) (x7_1 : Int),v6 = .int .i64 x6_1 ∧ v7 = .int .i64 x7_1 ∧ Aside0 (spec_l00Cut.l0 kq a0 a1 x5_1 x6_1 x7_1 = some r) ∧ Aside0 (kq ≤ k) ∧ Aside0 (Kd.R Kd.string 9 w' w.heap.size (fun _ => True) v5 x5_1) ∧ Aside0 (Below w.heap.size w w'))
 case atStart => exact ⟨(y240),(0),(0),(by first | rfl|(simp;done)|(simp [*];done)|(simp [ne_nil_b];done)|(simp [ne_nil_b, *];done)),(by first | rfl|(simp;done)|(simp [*];done)|(simp [ne_nil_b];done)|(simp [ne_nil_b, *];done)),H',⟨Nat.le_refl _⟩,⟨by (with_reducible repeat (first|apply Kd.R_alloc|apply Kd.R_drewN|apply Kd.R_drew));exact HO242.out⟩,⟨by repeat (first|(with_reducible first|exact HB.out|apply bwA|apply bwN|apply bw1)|exact HB.out)⟩⟩
 case round =>
  clear H'
  try clear p2
  obtain ⟨x5_1,x6_1,x7_1,rfl,rfl,HA,HK1,HO_5,HB⟩:=hrel
  cases gk with
  | zero => exact absurd HA.out (by simp [spec_l00Cut.l0])
  | succ k1 =>
   have H:=HA.out
   clear HA
   simp only [spec_l00Cut.l0] at H
   by_cases c5 : x7_1 < (a0.size : Int)
   ·rw [if_pos c5] at H
    have c5b0 : decide (x7_1 < (a0.size : Int)) = true:=decide_eq_true c5
    clear c5
    by_cases c6 : 0 ≤ x7_1
    ·rw [if_pos c6] at H
     have c6b0 : decide (0 ≤ x7_1) = true:=decide_eq_true c6
     clear c6
     by_cases c8 : (bt a0 x7_1) = a1
     ·rw [if_pos c8] at H
      have c8b0 : ((bt a0 x7_1) == a1) = true:=beq_iff_eq.mpr c8
      have c8b1 : ((bt a0 x7_1) != a1) = false:=bne_eq_false_iff_eq.mpr c8
      clear c8
      by_cases c9 : 0 ≤ x6_1
      ·rw [if_pos c9] at H
       have c9b0:=eq_true c9
       have c9b1 : decide (0 ≤ x6_1) = true:=decide_eq_true c9
       clear c9
       by_cases c10 : x6_1 ≤ x7_1
       ·rw [if_pos c10] at H
        have c10b0:=eq_true c10
        have c10b1 : decide (x6_1 ≤ x7_1) = true:=decide_eq_true c10
        clear c10
        by_cases c11 : x7_1 ≤ (a0.size : Int)
        ·rw [if_pos c11] at H
         have c11b0:=eq_true c11
         have c11b1 : decide (x7_1 ≤ (a0.size : Int)) = true:=decide_eq_true c11
         clear c11
         by_cases c12 : x5_1.length < 8796093022208
         ·rw [if_pos c12] at H
          have LMc12:=aMk c12
          clear c12
          obtain ⟨y243,hy243⟩ : ∃ y_ : List ByteArray,y_ = (x5_1 ++ [a0.extract (x6_1 : Int).toNat (x7_1 : Int).toNat]):=⟨_,rfl⟩
          replace H : (spec_l00Cut.l0 k1 a0 a1 y243 (wrap64 (x7_1 + 1)) (wrap64 (x7_1 + 1))) = some r:=by first|(rw [hy243];with_reducible exact H)|(have H2_:=(Option.bind_some _ _).symm.trans H;rw [hy243];with_reducible exact H2_)|(have H2_:=(Option.bind_some _ _).symm.trans H;with_reducible exact H2_) | with_reducible exact H|(rw [hy243];exact H)|exact H
          have Ny243:=aMk hy243
          clear hy243
          have H':=aMk H
          clear H
          have p7 : 0 ≤ (x7_1 : Int):=of_decide_eq_true (by first|(with_reducible assumption) | assumption)
          have q7 : x7_1 < (a0.size : Int):=of_decide_eq_true (by first|(with_reducible assumption) | assumption)
          have hx7:=bt_at a0 x7_1
          replace p7:=eq_true p7
          replace q7:=eq_true q7
          go_wp2_with (first|((with_reducible refine gate_builtin (b:=.append) (xs:=#[.tmp 20,.tmp 25]) rfl ?_);at_builtin;refine Kd.R_append Kd.string (w0:=w) w.heap.size rfl (.tmp 20) (.tmp 25) 43 9 (.string ⟨#[]⟩) 16 rfl Tryd.underlying43 info9 rfl (by decide) (by omega) u5 x5_1 (a0.extract (x6_1 : Int).toNat (x7_1 : Int).toNat) [.string (a0.extract (x6_1 : Int).toNat (x7_1 : Int).toNat)] (fun _ => True) (fun _ => False) rfl rfl ?aP (fun _ hk => hk.elim) ?aF ?aO ?aB ?aS ?aL ?_;(case aP => exact rfl);(case aB => exact (by repeat first|exact HB.out|apply bwA|apply bwN|apply bw1));(case aF => exact (fun _ _ => trivial));(case aO => exact (by (with_reducible repeat (first|apply Kd.R_alloc|apply Kd.R_drewN|apply Kd.R_drew));exact HO_5.out));(case aS => exact (below_size (by repeat first|exact HB.out|apply bwA|apply bwN|apply bw1)));(case aL => have:=LMc12.out;omega);intro v244 w13 ho hb hg hat;rw [← Ny243.out] at ho;have n0_:=aMk (hb);have n1_:=aMk (ho);clear HB;clear HO_5;have HB:=n0_;have HO245:=n1_;clear n0_ n1_;clear ho hb hg hat))
          go_roundg k1
          case measure => have:=HK1.out;omega
          case rel => exact ⟨(y243),(wrap64 (x7_1 + 1)),(wrap64 (x7_1 + 1)),(by first | rfl|(simp;done)|(simp [*];done)|(simp [ne_nil_b];done)|(simp [ne_nil_b, *];done)),(by first | rfl|(simp;done)|(simp [*];done)|(simp [ne_nil_b];done)|(simp [ne_nil_b, *];done)),H',⟨by have:=HK1.out;omega⟩,⟨by (with_reducible repeat (first|apply Kd.R_alloc|apply Kd.R_drewN|apply Kd.R_drew));exact HO245.out⟩,⟨by repeat (first|(with_reducible first|exact HB.out|apply bwA|apply bwN|apply bw1)|exact HB.out)⟩⟩
         ·rw [if_neg c12] at H
          exact absurd H (by simp)
        ·rw [if_neg c11] at H
         exact absurd H (by simp)
       ·rw [if_neg c10] at H
        exact absurd H (by simp)
      ·rw [if_neg c9] at H
       exact absurd H (by simp)
     ·rw [if_neg c8] at H
      have c8b0 : ((bt a0 x7_1) == a1) = false:=beq_eq_false_iff_ne.mpr c8
      have c8b1 : ((bt a0 x7_1) != a1) = true:=bne_iff_ne.mpr c8
      have H':=aMk H
      clear H
      have p7 : 0 ≤ (x7_1 : Int):=of_decide_eq_true (by first|(with_reducible assumption) | assumption)
      have q7 : x7_1 < (a0.size : Int):=of_decide_eq_true (by first|(with_reducible assumption) | assumption)
      have hx7:=bt_at a0 x7_1
      replace p7:=eq_true p7
      replace q7:=eq_true q7
      go_wp2
      go_roundg k1
      case measure => have:=HK1.out;omega
      case rel => exact ⟨(x5_1),(x6_1),(wrap64 (x7_1 + 1)),(by first | rfl|(simp;done)|(simp [*];done)|(simp [ne_nil_b];done)|(simp [ne_nil_b, *];done)),(by first | rfl|(simp;done)|(simp [*];done)|(simp [ne_nil_b];done)|(simp [ne_nil_b, *];done)),H',⟨by have:=HK1.out;omega⟩,⟨by (with_reducible repeat (first|apply Kd.R_alloc|apply Kd.R_drewN|apply Kd.R_drew));exact HO_5.out⟩,⟨by repeat (first|(with_reducible first|exact HB.out|apply bwA|apply bwN|apply bw1)|exact HB.out)⟩⟩
    ·rw [if_neg c6] at H
     exact absurd H (by simp)
   ·rw [if_neg c5] at H
    have c5b0 : decide (x7_1 < (a0.size : Int)) = false:=decide_eq_false c5
    clear c5
    by_cases c14 : 0 ≤ x6_1
    ·rw [if_pos c14] at H
     have c14b0:=eq_true c14
     have c14b1 : decide (0 ≤ x6_1) = true:=decide_eq_true c14
     clear c14
     by_cases c15 : x6_1 ≤ (a0.size : Int)
     ·rw [if_pos c15] at H
      have c15b0:=eq_true c15
      have c15b1 : decide (x6_1 ≤ (a0.size : Int)) = true:=decide_eq_true c15
      clear c15
      by_cases c16 : x5_1.length < 8796093022208
      ·rw [if_pos c16] at H
       have LMc16:=aMk c16
       clear c16
       obtain ⟨y246,hy246⟩ : ∃ y_ : List ByteArray,y_ = (x5_1 ++ [a0.extract (x6_1 : Int).toNat a0.size]):=⟨_,rfl⟩
       replace H : (some y246) = some r:=by first|(rw [hy246];with_reducible exact H)|(have H2_:=(Option.bind_some _ _).symm.trans H;rw [hy246];with_reducible exact H2_)|(have H2_:=(Option.bind_some _ _).symm.trans H;with_reducible exact H2_) | with_reducible exact H|(rw [hy246];exact H)|exact H
       have Ny246:=aMk hy246
       clear hy246
       obtain rfl:=Option.some.inj H
       go_wp2_with (first|((with_reducible refine gate_builtin (b:=.append) (xs:=#[.tmp 29,.tmp 33]) rfl ?_);at_builtin;refine Kd.R_append Kd.string (w0:=w) w.heap.size rfl (.tmp 29) (.tmp 33) 43 9 (.string ⟨#[]⟩) 16 rfl Tryd.underlying43 info9 rfl (by decide) (by omega) u5 x5_1 (a0.extract (x6_1 : Int).toNat a0.size) [.string (a0.extract (x6_1 : Int).toNat a0.size)] (fun _ => True) (fun _ => False) rfl rfl ?aP (fun _ hk => hk.elim) ?aF ?aO ?aB ?aS ?aL ?_;(case aP => exact rfl);(case aB => exact (by repeat first|exact HB.out|apply bwA|apply bwN|apply bw1));(case aF => exact (fun _ _ => trivial));(case aO => exact (by (with_reducible repeat (first|apply Kd.R_alloc|apply Kd.R_drewN|apply Kd.R_drew));exact HO_5.out));(case aS => exact (below_size (by repeat first|exact HB.out|apply bwA|apply bwN|apply bw1)));(case aL => have:=LMc16.out;omega);intro v247 w17 ho hb hg hat;rw [← Ny246.out] at ho;have n0_:=aMk (hb);have n1_:=aMk (ho);clear HB;clear HO_5;have HB:=n0_;have HO248:=n1_;clear n0_ n1_;clear ho hb hg hat))
       go_ret
       exact ⟨_,by first | rfl|(simp [errW_none,errW_some] <;> rfl)|(simp [*,errW_none,errW_some] <;> rfl),by (with_reducible repeat (first|apply Kd.R_alloc|apply Kd.R_drewN|apply Kd.R_drew));exact HO248.out,by repeat (first|(with_reducible first|exact HB.out|apply bwA|apply bwN|apply bw1)|exact HB.out)⟩
      ·rw [if_neg c16] at H
       exact absurd H (by simp)
     ·rw [if_neg c15] at H
      exact absurd H (by simp)
    ·rw [if_neg c14] at H
     exact absurd H (by simp)
end
section
/-! ### spec_l01ReadAddress: function 60 -/
def spec_l01ReadAddress.l0 : Nat → List ByteArray → Int → Int → Option (Int × Bool)
 | 0,_,_,_ => none
 | k + 1,x4,x5,x6 => if x6 < 4 then (if 0 ≤ x6 then (if x6 < (x4.length : Int) then ((spec_l00Number.f k (rdOf ByteArray.empty x4 x6)).bind fun bt253 => (if bt253.2 = true then ((spec_l01In.f bt253.1 0 255).bind fun t255 => (if t255 = true then (spec_l01ReadAddress.l0 k x4 (wrap64 ((wrap64 (x5 * 256)) + bt253.1)) (wrap64 (x6 + 1))) else (some (0,false)))) else (some (0,false)))) else (none)) else (none)) else (some (x5,true))
def spec_l01ReadAddress.f (k : Nat) (a0 : ByteArray) : Option (Int × Bool):=(spec_l00Cut.f k a0 46).bind fun t249 => (if (t249.length : Int) = 4 then (spec_l01ReadAddress.l0 k t249 0 0) else (some (0,false)))
theorem spec_l01ReadAddress.mono_l : ∀ k,(∀ y0 y1 y2,LeO (spec_l01ReadAddress.l0 k y0 y1 y2) (spec_l01ReadAddress.l0 (k + 1) y0 y1 y2))
 | 0 => fun _ _ _ r h => by simp [spec_l01ReadAddress.l0] at h
 | k + 1 => by
  have ih0:=spec_l01ReadAddress.mono_l k
  ·intro y0 y1 y2
   unfold spec_l01ReadAddress.l0
   repeat' first
   | (with_reducible exact ih0 _ _ _)
   | (with_reducible exact spec_l00Cut.mono ..)
   | (with_reducible exact spec_l00Number.mono ..)
   | (with_reducible exact LeO.refl _)
   | (with_reducible exact LeO.none _)
   | (with_reducible refine LeO.ite ?_ ?_)
   | (with_reducible refine LeO.bind ?_ (fun _ => ?_))
   | exact ih0 _ _ _
   | exact spec_l00Cut.mono ..
   | exact spec_l00Number.mono ..
   | exact LeO.none _
   | refine LeO.ite ?_ ?_
   | refine LeO.bind ?_ (fun _ => ?_)
theorem spec_l01ReadAddress.mono : ∀ a0 k,LeO (spec_l01ReadAddress.f k a0) (spec_l01ReadAddress.f (k + 1) a0):=by
 intro a0 k
 have ih0:=spec_l01ReadAddress.mono_l k
 unfold spec_l01ReadAddress.f
 repeat' first
   | (with_reducible exact ih0 _ _ _)
   | (with_reducible exact spec_l00Cut.mono ..)
   | (with_reducible exact spec_l00Number.mono ..)
   | (with_reducible exact LeO.refl _)
   | (with_reducible exact LeO.none _)
   | (with_reducible refine LeO.ite ?_ ?_)
   | (with_reducible refine LeO.bind ?_ (fun _ => ?_))
   | exact ih0 _ _ _
   | exact spec_l00Cut.mono ..
   | exact spec_l00Number.mono ..
   | exact LeO.none _
   | refine LeO.ite ?_ ?_
   | refine LeO.bind ?_ (fun _ => ?_)
set_option maxHeartbeats 8000000 in
set_option maxRecDepth 100000 in
theorem spec_l01ReadAddress.calls (k : Nat) (a0 : ByteArray) (r1 : Int) (r2 : Bool) (w : World) (h : spec_l01ReadAddress.f k a0 = some (r1,r2)) :
  Calls Tryd.prog 60 #[.string a0] w fun e w' => e = .returned (.tuple #[.int .i64 r1,.bool r2]) ∧ Below w.heap.size w w':=by
 have HB:=aMk (Below.refl w.heap.size w)
 have H : ((spec_l00Cut.f k a0 46).bind fun t249 => (if (t249.length : Int) = 4 then (spec_l01ReadAddress.l0 k t249 0 0) else (some (0,false)))) = some (r1,r2):=h
 clear h
 replace H:=Option.bind_eq_some_iff.mp H
 obtain ⟨t249,A20,H⟩:=H
 replace H : (if (t249.length : Int) = 4 then (spec_l01ReadAddress.l0 k t249 0 0) else (some (0,false))) = some (r1,r2):=H
 have A2:=aMk A20
 clear A20
 by_cases c3 : (t249.length : Int) = 4
 ·rw [if_pos c3] at H
  have c3b0 : ((t249.length : Int) == 4) = true:=beq_iff_eq.mpr c3
  have c3b1 : ((t249.length : Int) != 4) = false:=bne_eq_false_iff_eq.mpr c3
  clear c3
  have H':=aMk H
  clear H
  go_enter Tryd.func60,Tryd.ntmps60
  go_wp2_with (first|((with_reducible refine gate_callee (f:=59) rfl ?_);refine goesL_ (some 10) rfl rfl Tryd.func59 (by kernel_rfl) rfl #[.string a0,.int .u8 46] rfl (by (try simp only [List.map_toArray,List.map_cons,List.map_nil]);first | done | rfl|(simp only [List.length_drop,List.length_take];rfl)) ?_;(with_reducible refine (spec_l00Cut.calls k a0 46 t249 _ A2.out).mono ?_);rintro e w4 ⟨v250,rfl,ho0,hb⟩;refine ⟨_,rfl,?_⟩;have n0_:=aMk (Kd.R_lower ho0 (below_size (by repeat first|exact HB.out|apply bwA|apply bwN|apply bw1)));have n1_:=aMk (below_step (by repeat first|exact HB.out|apply bwA|apply bwN|apply bw1) hb);clear HB;have HO251:=n0_;have HB:=n1_;clear n0_ n1_;(try clear hb);(try clear hb2);(try clear hk);(try clear hi);(try clear ho0);obtain ⟨Ao5,co5,eo5⟩:=Kd.R_slice HO251.out;subst eo5))
  go_loopg [5,6] k (fun kq v5 v6 w' => ∃ (x5_1 : Int) (x6_1 : Int),v5 = .int .i64 x5_1 ∧ v6 = .int .i64 x6_1 ∧ Aside0 (spec_l01ReadAddress.l0 kq t249 x5_1 x6_1 = some (r1,r2)) ∧ Aside0 (kq ≤ k) ∧ Aside0 (Kd.R Kd.string 9 w' w.heap.size (fun _ => True) (.slice Ao5 t249.length co5) t249) ∧ Aside0 (Below w.heap.size w w'))
  case atStart => exact ⟨(0),(0),(by first | rfl|(simp;done)|(simp [*];done)|(simp [ne_nil_b];done)|(simp [ne_nil_b, *];done)),(by first | rfl|(simp;done)|(simp [*];done)|(simp [ne_nil_b];done)|(simp [ne_nil_b, *];done)),H',⟨Nat.le_refl _⟩,⟨by (with_reducible repeat (first|apply Kd.R_alloc|apply Kd.R_drewN|apply Kd.R_drew));exact HO251.out⟩,⟨by repeat (first|(with_reducible first|exact HB.out|apply bwA|apply bwN|apply bw1)|exact HB.out)⟩⟩
  case round =>
   clear H'
   try clear p2
   try clear c3
   try clear c3b0
   try clear c3b1
   try clear c5
   obtain ⟨x5_1,x6_1,rfl,rfl,HA,HK1,HO_4,HB⟩:=hrel
   cases gk with
   | zero => exact absurd HA.out (by simp [spec_l01ReadAddress.l0])
   | succ k1 =>
    have H:=HA.out
    clear HA
    simp only [spec_l01ReadAddress.l0] at H
    by_cases c6 : x6_1 < 4
    ·rw [if_pos c6] at H
     have c6b0 : decide (x6_1 < 4) = true:=decide_eq_true c6
     clear c6
     by_cases c7 : 0 ≤ x6_1
     ·rw [if_pos c7] at H
      have c7b0 : decide (0 ≤ x6_1) = true:=decide_eq_true c7
      clear c7
      by_cases c8 : x6_1 < (t249.length : Int)
      ·rw [if_pos c8] at H
       have c8b0 : decide (x6_1 < (t249.length : Int)) = true:=decide_eq_true c8
       clear c8
       replace H:=Option.bind_eq_some_iff.mp H
       obtain ⟨⟨t253,t254⟩,A90,H⟩:=H
       replace H : (if t254 = true then ((spec_l01In.f t253 0 255).bind fun t255 => (if t255 = true then (spec_l01ReadAddress.l0 k1 t249 (wrap64 ((wrap64 (x5_1 * 256)) + t253)) (wrap64 (x6_1 + 1))) else (some (0,false)))) else (some (0,false))) = some (r1,r2):=H
       have A9:=aMk A90
       clear A90
       by_cases c10 : t254 = true
       ·subst c10
        have H1 : ((spec_l01In.f t253 0 255).bind fun t255 => (if t255 = true then (spec_l01ReadAddress.l0 k1 t249 (wrap64 ((wrap64 (x5_1 * 256)) + t253)) (wrap64 (x6_1 + 1))) else (some (0,false)))) = some (r1,r2):=by rw [if_pos rfl] at H;exact H
        clear H
        have H:=H1
        clear H1
        replace H:=Option.bind_eq_some_iff.mp H
        obtain ⟨t255,A110,H⟩:=H
        replace H : (if t255 = true then (spec_l01ReadAddress.l0 k1 t249 (wrap64 ((wrap64 (x5_1 * 256)) + t253)) (wrap64 (x6_1 + 1))) else (some (0,false))) = some (r1,r2):=H
        have A11:=aMk A110
        clear A110
        by_cases c12 : t255 = true
        ·subst c12
         have H1 : (spec_l01ReadAddress.l0 k1 t249 (wrap64 ((wrap64 (x5_1 * 256)) + t253)) (wrap64 (x6_1 + 1))) = some (r1,r2):=by rw [if_pos rfl] at H;exact H
         clear H
         have H:=H1
         clear H1
         have H':=aMk H
         clear H
         have p252 : 0 ≤ (x6_1 : Int):=of_decide_eq_true (by first|(with_reducible assumption) | assumption)
         have q252 : x6_1 < (t249.length : Int):=of_decide_eq_true (by first|(with_reducible assumption) | assumption)
         obtain ⟨ad252,e252,hx252_0⟩:=Kd.at_string (Kd.R_reads' HO_4.out).2.2 x6_1 p252 q252
         cases e252
         replace p252:=eq_true p252
         replace q252:=eq_true q252
         go_wp2_with (first|((with_reducible refine gate_callee (f:=42) rfl ?_);refine goesL_ (some 23) rfl rfl Tryd.func42 (by kernel_rfl) rfl #[.string (rdOf ByteArray.empty t249 x6_1)] rfl (by (try simp only [List.map_toArray,List.map_cons,List.map_nil]);first | done | rfl|(simp only [List.length_drop,List.length_take];rfl)) ?_;(with_reducible refine (spec_l00Number.calls k1 (rdOf ByteArray.empty t249 x6_1) t253 true _ A9.out).mono ?_);rintro e w' ⟨rfl,⟨nd,rfl⟩⟩;refine ⟨_,rfl,?_⟩)|(go_at_call 52;(with_reducible refine (spec_l01In.calls t253 0 255 true _ A11.out).mono ?_);rintro e w' ⟨rfl,⟨nd,rfl⟩⟩))
         go_roundg k1
         case measure => have:=HK1.out;omega
         case rel => exact ⟨(wrap64 ((wrap64 (x5_1 * 256)) + t253)),(wrap64 (x6_1 + 1)),(by first | rfl|(simp;done)|(simp [*];done)|(simp [ne_nil_b];done)|(simp [ne_nil_b, *];done)),(by first | rfl|(simp;done)|(simp [*];done)|(simp [ne_nil_b];done)|(simp [ne_nil_b, *];done)),H',⟨by have:=HK1.out;omega⟩,⟨by (with_reducible repeat (first|apply Kd.R_alloc|apply Kd.R_drewN|apply Kd.R_drew));exact HO_4.out⟩,⟨by repeat (first|(with_reducible first|exact HB.out|apply bwA|apply bwN|apply bw1)|exact HB.out)⟩⟩
        ·replace c12:=Bool.eq_false_iff.mpr c12
         subst c12
         have H1 : (some (0,false)) = some (r1,r2):=by rw [if_neg (show ¬ (false = true) by decide)] at H;exact H
         clear H
         have H:=H1
         clear H1
         simp only [Option.some.injEq,Prod.mk.injEq] at H
         obtain ⟨rfl,rfl⟩:=H
         have p252 : 0 ≤ (x6_1 : Int):=of_decide_eq_true (by first|(with_reducible assumption) | assumption)
         have q252 : x6_1 < (t249.length : Int):=of_decide_eq_true (by first|(with_reducible assumption) | assumption)
         obtain ⟨ad252,e252,hx252_0⟩:=Kd.at_string (Kd.R_reads' HO_4.out).2.2 x6_1 p252 q252
         cases e252
         replace p252:=eq_true p252
         replace q252:=eq_true q252
         go_wp2_with (first|((with_reducible refine gate_callee (f:=42) rfl ?_);refine goesL_ (some 23) rfl rfl Tryd.func42 (by kernel_rfl) rfl #[.string (rdOf ByteArray.empty t249 x6_1)] rfl (by (try simp only [List.map_toArray,List.map_cons,List.map_nil]);first | done | rfl|(simp only [List.length_drop,List.length_take];rfl)) ?_;(with_reducible refine (spec_l00Number.calls k1 (rdOf ByteArray.empty t249 x6_1) t253 true _ A9.out).mono ?_);rintro e w' ⟨rfl,⟨nd,rfl⟩⟩;refine ⟨_,rfl,?_⟩)|(go_at_call 52;(with_reducible refine (spec_l01In.calls t253 0 255 false _ A11.out).mono ?_);rintro e w' ⟨rfl,⟨nd,rfl⟩⟩))
         go_ret2
         exact ⟨by first | rfl|(simp [errW_none,errW_some] <;> rfl)|(simp [*,errW_none,errW_some] <;> rfl),by repeat (first|(with_reducible first|exact HB.out|apply bwA|apply bwN|apply bw1)|exact HB.out)⟩
       ·replace c10:=Bool.eq_false_iff.mpr c10
        subst c10
        have H1 : (some (0,false)) = some (r1,r2):=by rw [if_neg (show ¬ (false = true) by decide)] at H;exact H
        clear H
        have H:=H1
        clear H1
        simp only [Option.some.injEq,Prod.mk.injEq] at H
        obtain ⟨rfl,rfl⟩:=H
        have p252 : 0 ≤ (x6_1 : Int):=of_decide_eq_true (by first|(with_reducible assumption) | assumption)
        have q252 : x6_1 < (t249.length : Int):=of_decide_eq_true (by first|(with_reducible assumption) | assumption)
        obtain ⟨ad252,e252,hx252_0⟩:=Kd.at_string (Kd.R_reads' HO_4.out).2.2 x6_1 p252 q252
        cases e252
        replace p252:=eq_true p252
        replace q252:=eq_true q252
        go_wp2_with (first|((with_reducible refine gate_callee (f:=42) rfl ?_);refine goesL_ (some 23) rfl rfl Tryd.func42 (by kernel_rfl) rfl #[.string (rdOf ByteArray.empty t249 x6_1)] rfl (by (try simp only [List.map_toArray,List.map_cons,List.map_nil]);first | done | rfl|(simp only [List.length_drop,List.length_take];rfl)) ?_;(with_reducible refine (spec_l00Number.calls k1 (rdOf ByteArray.empty t249 x6_1) t253 false _ A9.out).mono ?_);rintro e w' ⟨rfl,⟨nd,rfl⟩⟩;refine ⟨_,rfl,?_⟩))
        go_ret2
        exact ⟨by first | rfl|(simp [errW_none,errW_some] <;> rfl)|(simp [*,errW_none,errW_some] <;> rfl),by repeat (first|(with_reducible first|exact HB.out|apply bwA|apply bwN|apply bw1)|exact HB.out)⟩
      ·rw [if_neg c8] at H
       exact absurd H (by simp)
     ·rw [if_neg c7] at H
      exact absurd H (by simp)
    ·rw [if_neg c6] at H
     have c6b0 : decide (x6_1 < 4) = false:=decide_eq_false c6
     clear c6
     simp only [Option.some.injEq,Prod.mk.injEq] at H
     obtain ⟨rfl,rfl⟩:=H
     go_wp2
     go_ret2
     exact ⟨by first | rfl|(simp [errW_none,errW_some] <;> rfl)|(simp [*,errW_none,errW_some] <;> rfl),by repeat (first|(with_reducible first|exact HB.out|apply bwA|apply bwN|apply bw1)|exact HB.out)⟩
 ·rw [if_neg c3] at H
  have c3b0 : ((t249.length : Int) == 4) = false:=beq_eq_false_iff_ne.mpr c3
  have c3b1 : ((t249.length : Int) != 4) = true:=bne_iff_ne.mpr c3
  simp only [Option.some.injEq,Prod.mk.injEq] at H
  obtain ⟨rfl,rfl⟩:=H
  go_enter Tryd.func60,Tryd.ntmps60
  go_wp2_with (first|((with_reducible refine gate_callee (f:=59) rfl ?_);refine goesL_ (some 10) rfl rfl Tryd.func59 (by kernel_rfl) rfl #[.string a0,.int .u8 46] rfl (by (try simp only [List.map_toArray,List.map_cons,List.map_nil]);first | done | rfl|(simp only [List.length_drop,List.length_take];rfl)) ?_;(with_reducible refine (spec_l00Cut.calls k a0 46 t249 _ A2.out).mono ?_);rintro e w13 ⟨v250,rfl,ho0,hb⟩;refine ⟨_,rfl,?_⟩;have n0_:=aMk (Kd.R_lower ho0 (below_size (by repeat first|exact HB.out|apply bwA|apply bwN|apply bw1)));have n1_:=aMk (below_step (by repeat first|exact HB.out|apply bwA|apply bwN|apply bw1) hb);clear HB;have HO251:=n0_;have HB:=n1_;clear n0_ n1_;(try clear hb);(try clear hb2);(try clear hk);(try clear hi);(try clear ho0);obtain ⟨Ao14,co14,eo14⟩:=Kd.R_slice HO251.out;subst eo14))
  go_ret2
  exact ⟨by first | rfl|(simp [errW_none,errW_some] <;> rfl)|(simp [*,errW_none,errW_some] <;> rfl),by repeat (first|(with_reducible first|exact HB.out|apply bwA|apply bwN|apply bw1)|exact HB.out)⟩
end
section
/-! ### spec_l05Read: function 41 -/
def spec_l05Read.f (k : Nat) (a0 : ByteArray) : Option (Int × Int × Bool):=(spec_l00Cut.f k a0 47).bind fun t257 => (if (t257.length : Int) = 2 then (if 0 < (t257.length : Int) then ((spec_l01ReadAddress.f k (rdOf ByteArray.empty t257 0)).bind fun bt261 => (if 1 < (t257.length : Int) then ((spec_l00Number.f k (rdOf ByteArray.empty t257 1)).bind fun bt264 => (if bt261.2 = true then (if bt264.2 = true then ((spec_NetOK.f bt261.1 bt264.1).bind fun t267 => (some (bt261.1,bt264.1,t267))) else (some (bt261.1,bt264.1,false))) else (some (bt261.1,bt264.1,false)))) else (none))) else (none)) else (some (0,0,false)))
theorem spec_l05Read.mono : ∀ a0 k,LeO (spec_l05Read.f k a0) (spec_l05Read.f (k + 1) a0):=by
 intro a0 k
 unfold spec_l05Read.f
 repeat' first
   | (with_reducible exact spec_l00Cut.mono ..)
   | (with_reducible exact spec_l00Number.mono ..)
   | (with_reducible exact spec_l01ReadAddress.mono ..)
   | (with_reducible exact LeO.refl _)
   | (with_reducible exact LeO.none _)
   | (with_reducible refine LeO.ite ?_ ?_)
   | (with_reducible refine LeO.bind ?_ (fun _ => ?_))
   | exact spec_l00Cut.mono ..
   | exact spec_l00Number.mono ..
   | exact spec_l01ReadAddress.mono ..
   | exact LeO.none _
   | refine LeO.ite ?_ ?_
   | refine LeO.bind ?_ (fun _ => ?_)
def spec_l05Read.T7 : Bool × List (List Nat × List Nat):=(true,[([],[]),([],[]),([1],[1]),([2],[2]),([2,3],[2,3]),([4,2],[4]),([5],[5]),([6,5,5],[5,6]),([5,7],[5,7]),([0,7,0],[0]),([8,9,0,1,2,3,4,5,6,7,8,9],[8])])
def spec_l05Read.B7 : List Nat:=[0,0,2,6,14,30,62,126,254,255,1023]
theorem spec_l05Read.tab7 : rtab .any (opsOf Tryd.f41 7) = spec_l05Read.T7:=by kernel_rfl
theorem spec_l05Read.bits7 : waitsOk spec_l05Read.T7.2 spec_l05Read.B7 = true:=by kernel_rfl
set_option maxHeartbeats 8000000 in
set_option maxRecDepth 100000 in
theorem spec_l05Read.calls (k : Nat) (a0 : ByteArray) (r1 : Int) (r2 : Int) (r3 : Bool) (w : World) (h : spec_l05Read.f k a0 = some (r1,r2,r3)) :
  Calls Tryd.prog 41 #[.string a0] w fun e w' => e = .returned (.tuple #[.agg #[.int .i64 r1,.int .i64 r2],.bool r3]) ∧ Below w.heap.size w w':=by
 have hu30:=Tryd.underlying30
 have HB:=aMk (Below.refl w.heap.size w)
 have H : ((spec_l00Cut.f k a0 47).bind fun t257 => (if (t257.length : Int) = 2 then (if 0 < (t257.length : Int) then ((spec_l01ReadAddress.f k (rdOf ByteArray.empty t257 0)).bind fun bt261 => (if 1 < (t257.length : Int) then ((spec_l00Number.f k (rdOf ByteArray.empty t257 1)).bind fun bt264 => (if bt261.2 = true then (if bt264.2 = true then ((spec_NetOK.f bt261.1 bt264.1).bind fun t267 => (some (bt261.1,bt264.1,t267))) else (some (bt261.1,bt264.1,false))) else (some (bt261.1,bt264.1,false)))) else (none))) else (none)) else (some (0,0,false)))) = some (r1,r2,r3):=h
 clear h
 replace H:=Option.bind_eq_some_iff.mp H
 obtain ⟨t257,A20,H⟩:=H
 replace H : (if (t257.length : Int) = 2 then (if 0 < (t257.length : Int) then ((spec_l01ReadAddress.f k (rdOf ByteArray.empty t257 0)).bind fun bt261 => (if 1 < (t257.length : Int) then ((spec_l00Number.f k (rdOf ByteArray.empty t257 1)).bind fun bt264 => (if bt261.2 = true then (if bt264.2 = true then ((spec_NetOK.f bt261.1 bt264.1).bind fun t267 => (some (bt261.1,bt264.1,t267))) else (some (bt261.1,bt264.1,false))) else (some (bt261.1,bt264.1,false)))) else (none))) else (none)) else (some (0,0,false))) = some (r1,r2,r3):=H
 have A2:=aMk A20
 clear A20
 by_cases c3 : (t257.length : Int) = 2
 ·rw [if_pos c3] at H
  have c3b0 : ((t257.length : Int) == 2) = true:=beq_iff_eq.mpr c3
  have c3b1 : ((t257.length : Int) != 2) = false:=bne_eq_false_iff_eq.mpr c3
  clear c3
  by_cases c4 : 0 < (t257.length : Int)
  ·rw [if_pos c4] at H
   have c4b0 : decide (0 < (t257.length : Int)) = true:=decide_eq_true c4
   have c4b1 : decide (0 < t257.length) = true:=decide_eq_true (by omega)
   clear c4
   replace H:=Option.bind_eq_some_iff.mp H
   obtain ⟨⟨t261,t262⟩,A50,H⟩:=H
   replace H : (if 1 < (t257.length : Int) then ((spec_l00Number.f k (rdOf ByteArray.empty t257 1)).bind fun bt264 => (if t262 = true then (if bt264.2 = true then ((spec_NetOK.f t261 bt264.1).bind fun t267 => (some (t261,bt264.1,t267))) else (some (t261,bt264.1,false))) else (some (t261,bt264.1,false)))) else (none)) = some (r1,r2,r3):=H
   have A5:=aMk A50
   clear A50
   by_cases c6 : 1 < (t257.length : Int)
   ·rw [if_pos c6] at H
    have c6b0 : decide (1 < (t257.length : Int)) = true:=decide_eq_true c6
    have c6b1 : decide (1 < t257.length) = true:=decide_eq_true (by omega)
    clear c6
    replace H:=Option.bind_eq_some_iff.mp H
    obtain ⟨⟨t264,t265⟩,A70,H⟩:=H
    replace H : (if t262 = true then (if t265 = true then ((spec_NetOK.f t261 t264).bind fun t267 => (some (t261,t264,t267))) else (some (t261,t264,false))) else (some (t261,t264,false))) = some (r1,r2,r3):=H
    have A7:=aMk A70
    clear A70
    by_cases c8 : t262 = true
    ·subst c8
     have H1 : (if t265 = true then ((spec_NetOK.f t261 t264).bind fun t267 => (some (t261,t264,t267))) else (some (t261,t264,false))) = some (r1,r2,r3):=by rw [if_pos rfl] at H;exact H
     clear H
     have H:=H1
     clear H1
     by_cases c9 : t265 = true
     ·subst c9
      have H1 : ((spec_NetOK.f t261 t264).bind fun t267 => (some (t261,t264,t267))) = some (r1,r2,r3):=by rw [if_pos rfl] at H;exact H
      clear H
      have H:=H1
      clear H1
      replace H:=Option.bind_eq_some_iff.mp H
      obtain ⟨t267,A100,H⟩:=H
      replace H : (some (t261,t264,t267)) = some (r1,r2,r3):=H
      have A10:=aMk A100
      clear A100
      simp only [Option.some.injEq,Prod.mk.injEq] at H
      obtain ⟨rfl,rfl,rfl⟩:=H
      go_enter Tryd.func41,Tryd.ntmps41
      try go_wp2_with (first|((with_reducible refine gate_dst (N:=2) rfl ?_);refine box_event ?hg (N:=2) ?hd (cs:=#[.int .i64 0,.int .i64 0]) (t:=30) ?hr ?_;(case hd => rfl);(case hg => rfl);(case hr => first|(go_simp;done)|(go_simp;rfl));intro gb256 hg w11 hbox hb;have n0_:=aMk (below_step (by repeat first|exact HB.out|apply bwA|apply bwN|apply bw1) hb);have n1_:=aMk (hbox);have n2_:=aMk ((by rw [hg];exact (below_size (by repeat first|exact HB.out|apply bwA|apply bwN|apply bw1)) : w.heap.size ≤ gb256));have n3_:=aMk ((by rw [hg];exact (below_size (by repeat first|exact HB.out|apply bwA|apply bwN|apply bw1)) : w.heap.size ≤ gb256));clear HB;have HB:=n0_;have BK256:=n1_;have GW256:=n2_;have GE256:=n3_;clear n0_ n1_ n2_ n3_;clear hb hbox hg)|((with_reducible refine gate_callee (f:=59) rfl ?_);refine goesL_ (some 11) rfl rfl Tryd.func59 (by kernel_rfl) rfl #[.string a0,.int .u8 47] rfl (by (try simp only [List.map_toArray,List.map_cons,List.map_nil]);first | done | rfl|(simp only [List.length_drop,List.length_take];rfl)) ?_;(with_reducible refine (spec_l00Cut.calls k a0 47 t257 _ A2.out).mono ?_);rintro e w12 ⟨v258,rfl,ho0,hb⟩;refine ⟨_,rfl,?_⟩;have n0_:=aMk (Kd.R_lower ho0 (below_size (by repeat (first|(with_reducible first|exact HB.out|apply bwA|apply bwN|apply bw1|refine below_set ?_ GE256.out)|exact HB.out))));have n1_:=aMk (blk_below (g:=gb256) (o:=.cells #[.int .i64 0,.int .i64 0] 30 (0,0)) (by (with_reducible repeat (first|refine bDn ?_ _|refine bDr ?_|refine bAl ?_ _));exact BK256.out) hb);have n2_:=aMk (below_step (by repeat (first|(with_reducible first|exact HB.out|apply bwA|apply bwN|apply bw1|refine below_set ?_ GE256.out)|exact HB.out)) hb);clear BK256;clear HB;have HO259:=n0_;have BK256:=n1_;have HB:=n2_;clear n0_ n1_ n2_;(try clear hb);(try clear hb2);(try clear hk);(try clear hi);(try clear ho0);obtain ⟨Ao13,co13,eo13⟩:=Kd.R_slice HO259.out;subst eo13;have p260 : 0 ≤ (0 : Int):=(by omega);have q260 : 0 < (t257.length : Int):=of_decide_eq_true (by first|(with_reducible assumption) | assumption);obtain ⟨ad260,e260,hx260_0⟩:=Kd.at_string (Kd.R_reads' HO259.out).2.2 0 p260 q260;cases e260;have qi260 : (0 < t257.length) = True:=eq_true (by omega);(try rw [show ((0 : Int)).toNat = 0 from rfl] at hx260_0);(try rw [Addr.add_zero'] at hx260_0);replace p260:=eq_true p260;replace q260:=eq_true q260)|((with_reducible refine gate_callee (f:=60) rfl ?_);refine goesL_ (some 20) rfl rfl Tryd.func60 (by kernel_rfl) rfl #[.string (rdOf ByteArray.empty t257 0)] rfl (by (try simp only [List.map_toArray,List.map_cons,List.map_nil]);first | done | rfl|(simp only [List.length_drop,List.length_take];rfl)) ?_;(with_reducible refine (spec_l01ReadAddress.calls k (rdOf ByteArray.empty t257 0) t261 true _ A5.out).mono ?_);rintro e w14 ⟨rfl,hb⟩;refine ⟨_,rfl,?_⟩;have n0_:=aMk (Kd.R_below (by (with_reducible repeat (first|apply Kd.R_alloc|apply Kd.R_drewN|apply Kd.R_drew));exact HO259.out) hb);have n1_:=aMk (blk_below (g:=gb256) (o:=.cells #[.int .i64 0,.int .i64 0] 30 (0,0)) (by (with_reducible repeat (first|refine bDn ?_ _|refine bDr ?_|refine bAl ?_ _));exact BK256.out) hb);have n2_:=aMk (below_step (by repeat (first|(with_reducible first|exact HB.out|apply bwA|apply bwN|apply bw1|refine below_set ?_ GE256.out)|exact HB.out)) hb);clear HO259;clear BK256;clear HB;have HO259:=n0_;have BK256:=n1_;have HB:=n2_;clear n0_ n1_ n2_;(try clear hb);(try clear hb2);(try clear hk);(try clear hi);have p263 : 0 ≤ (1 : Int):=(by omega);have q263 : 1 < (t257.length : Int):=of_decide_eq_true (by first|(with_reducible assumption) | assumption);obtain ⟨ad263,e263,hx263_0⟩:=Kd.at_string (Kd.R_reads' HO259.out).2.2 1 p263 q263;obtain rfl : ad260 = ad263:=(by injection e263);(try simp only [show (1 : Int).toNat = 1 from rfl,Nat.reduceMul,Nat.reduceEqDiff,Go.Addr.add,↓reduceIte] at hx263_0);have qi263 : (1 < t257.length) = True:=eq_true (by omega);(try rw [show ((1 : Int)).toNat = 1 from rfl] at hx263_0);replace p263:=eq_true p263;replace q263:=eq_true q263)|((with_reducible refine gate_callee (f:=42) rfl ?_);refine goesL_ (some 27) rfl rfl Tryd.func42 (by kernel_rfl) rfl #[.string (rdOf ByteArray.empty t257 1)] rfl (by (try simp only [List.map_toArray,List.map_cons,List.map_nil]);first | done | rfl|(simp only [List.length_drop,List.length_take];rfl)) ?_;(with_reducible refine (spec_l00Number.calls k (rdOf ByteArray.empty t257 1) t264 true _ A7.out).mono ?_);rintro e w' ⟨rfl,⟨nd,rfl⟩⟩;refine ⟨_,rfl,?_⟩;(try (rw [drewN_self w14];generalize hq_ : World.drewN w14 _ = w14;have n0_ : Aside0 (Kd.R Kd.string 9 w14 w.heap.size (fun _ => True) (.slice (some ad260) t257.length co13) t257):=⟨by rw [← hq_];exact (by (with_reducible repeat (first|apply Kd.R_alloc|apply Kd.R_drewN|apply Kd.R_drew));exact HO259.out)⟩;have n1_ : Aside0 (w14.heap[gb256]? = some (.cells #[.int .i64 0,.int .i64 0] 30 (0,0))):=⟨by rw [← hq_];exact (by (with_reducible repeat (first|refine bDn ?_ _|refine bDr ?_|refine bAl ?_ _));exact BK256.out)⟩;have n2_ : Aside0 (Below w.heap.size w w14):=⟨by rw [← hq_];exact (by repeat (first|(with_reducible first|exact HB.out|apply bwA|apply bwN|apply bw1|refine below_set ?_ GE256.out)|exact HB.out))⟩;clear HO259 BK256 HB hq_;have HO259:=n0_;have BK256:=n1_;have HB:=n2_;clear n0_ n1_ n2_)))|((with_reducible refine gate_dst (N:=9) rfl ?_);refine box_event ?hg (N:=9) ?hd (cs:=#[.int .i64 0,.int .i64 0]) (t:=30) ?hr ?_;(case hd => rfl);(case hg => rfl);(case hr => first|(go_simp;done)|(go_simp;rfl));intro gb266 hg w15 hbox hb;have n0_:=aMk (Kd.R_below (by (with_reducible repeat (first|apply Kd.R_alloc|apply Kd.R_drewN|apply Kd.R_drew));exact HO259.out) hb);have n1_:=aMk (blk_below (g:=gb256) (o:=.cells #[.int .i64 0,.int .i64 0] 30 (0,0)) (by (with_reducible repeat (first|refine bDn ?_ _|refine bDr ?_|refine bAl ?_ _));exact BK256.out) hb);have n2_:=aMk (below_step (by repeat (first|(with_reducible first|exact HB.out|apply bwA|apply bwN|apply bw1|refine below_set ?_ GE256.out)|exact HB.out)) hb);have n3_:=aMk (hbox);have n4_:=aMk ((by rw [hg];exact (below_size (by repeat (first|(with_reducible first|exact HB.out|apply bwA|apply bwN|apply bw1|refine below_set ?_ GE256.out)|exact HB.out))) : w.heap.size ≤ gb266));have n5_:=aMk ((by rw [hg];exact (below_size (by repeat (first|(with_reducible first|exact HB.out|apply bwA|apply bwN|apply bw1|refine below_set ?_ GE256.out)|exact HB.out))) : w.heap.size ≤ gb266));have n6_:=aMk ((by rw [hg];exact Nat.ne_of_lt (blk_lt (g:=gb256) (o:=.cells #[.int .i64 0,.int .i64 0] 30 (0,0)) (by (with_reducible repeat (first|refine bDn ?_ _|refine bDr ?_|refine bAl ?_ _));exact BK256.out)) : gb256 ≠ gb266));have n7_:=aMk ((by rw [hg];exact Nat.ne_of_gt (blk_lt (g:=gb256) (o:=.cells #[.int .i64 0,.int .i64 0] 30 (0,0)) (by (with_reducible repeat (first|refine bDn ?_ _|refine bDr ?_|refine bAl ?_ _));exact BK256.out)) : gb266 ≠ gb256));clear HO259;clear BK256;clear HB;have HO259:=n0_;have BK256:=n1_;have HB:=n2_;have BK266:=n3_;have GW266:=n4_;have GE266:=n5_;have NB256_266:=n6_;have NB266_256:=n7_;clear n0_ n1_ n2_ n3_ n4_ n5_ n6_ n7_;clear hb hbox hg;have hnb16:=NB266_256.out;have hnc16:=NB256_266.out;have hcz17_0 : w15.cell? ⟨gb266,0,none⟩ = some (.int .i64 0):=(bCe BK266.out 0).trans rfl;have hcz17_1 : w15.cell? ⟨gb266,1,none⟩ = some (.int .i64 0):=(bCe BK266.out 1).trans rfl;have hfz17_0:=bFr BK266.out 0;have hfz17_1:=bFr BK266.out 1))
      (try (repeat rw [show ∀ (w_ : World) (n_ : Nat) (a_ : Addr) (v_ : Value),(w_.drewN n_).setCell a_ v_ = (w_.setCell a_ v_).drewN n_ from fun _ _ _ _ => rfl]));(try (repeat rw [World.drewN_drewN]))
      have n0_ : Aside0 (Kd.R Kd.string 9 ((w15.setCell ⟨gb266,0,none⟩ (.int .i64 t261)).setCell ⟨gb266,1,none⟩ (.int .i64 t264)) w.heap.size (fun _ => True) (.slice (some ad260) t257.length co13) t257):=⟨by (with_reducible repeat (first|apply Kd.R_alloc|apply Kd.R_drewN|apply Kd.R_drew));exact Kd.R_mono (Kd.R_far (p:=⟨gb266,1,none⟩) (Kd.R_far (p:=⟨gb266,0,none⟩) (Kd.R_types HO259.out BK266.out (by decide)) (fun _ hk => hk.2) (.int .i64 t261)) (fun _ hk => hk.2) (.int .i64 t264)) (fun _ hk => trivial)⟩
      have n1_ : Aside0 (((w15.setCell ⟨gb266,0,none⟩ (.int .i64 t261)).setCell ⟨gb266,1,none⟩ (.int .i64 t264)).heap[gb256]? = some (.cells #[.int .i64 0,.int .i64 0] 30 (0,0))):=⟨by (with_reducible repeat (first|refine bDn ?_ _|refine bDr ?_|refine bAl ?_ _));refine blk_far ?_ NB256_266.out _;(with_reducible repeat (first|refine bDn ?_ _|refine bDr ?_|refine bAl ?_ _));refine blk_far ?_ NB256_266.out _;(with_reducible repeat (first|refine bDn ?_ _|refine bDr ?_|refine bAl ?_ _));exact BK256.out⟩
      have n2_ : Aside0 (((w15.setCell ⟨gb266,0,none⟩ (.int .i64 t261)).setCell ⟨gb266,1,none⟩ (.int .i64 t264)).heap[gb266]? = some (.cells #[.int .i64 t261,.int .i64 t264] 30 (0,0))):=⟨by (with_reducible repeat (first|refine bDn ?_ _|refine bDr ?_|refine bAl ?_ _));refine blk_put (cs:=#[.int .i64 t261,.int .i64 0]) ?_ 1 _ rfl;(with_reducible repeat (first|refine bDn ?_ _|refine bDr ?_|refine bAl ?_ _));refine blk_put (cs:=#[.int .i64 0,.int .i64 0]) ?_ 0 _ rfl;(with_reducible repeat (first|refine bDn ?_ _|refine bDr ?_|refine bAl ?_ _));exact BK266.out⟩
      have n3_ : Aside0 (Below w.heap.size w ((w15.setCell ⟨gb266,0,none⟩ (.int .i64 t261)).setCell ⟨gb266,1,none⟩ (.int .i64 t264))):=⟨by repeat (first|(with_reducible first|exact HB.out|apply bwA|apply bwN|apply bw1|refine below_set ?_ GE256.out|refine below_set ?_ GE266.out)|exact HB.out)⟩
      (try clear HO259)
      (try clear BK256)
      (try clear BK266)
      (try clear HB)
      generalize ((w15.setCell ⟨gb266,0,none⟩ (.int .i64 t261)).setCell ⟨gb266,1,none⟩ (.int .i64 t264)) = w18 at n0_ n1_ n2_ n3_ ⊢
      have HO259:=n0_
      have BK256:=n1_
      have BK266:=n2_
      have HB:=n3_
      clear n0_ n1_ n2_ n3_
      have n0_:=aMk (Kd.R_drew HO259.out)
      have n1_:=aMk (bDr BK256.out)
      have n2_:=aMk (bDr BK266.out)
      have n3_:=aMk (bw1 HB.out)
      clear HO259
      clear BK256
      clear BK266
      clear HB
      have HO259:=n0_
      have BK256:=n1_
      have BK266:=n2_
      have HB:=n3_
      clear n0_ n1_ n2_ n3_
      refine start_ (n:=11) (S:=fun w' => w'.cell? ⟨gb266,0,none⟩ = some (.int .i64 t261) ∧ w'.cell? ⟨gb266,1,none⟩ = some (.int .i64 t264)) (ds:=[]) #[false,false,false,false,false,false,false,false,false,false,false] (by kernel_rfl) rfl rfl ⟨(bCe BK266.out 0).trans rfl,(bCe BK266.out 1).trans rfl⟩ (fun hHeld => ?_);refine with_tabW spec_l05Read.tab7 spec_l05Read.bits7 (fun HT_ HW_ => ?_)
      generalize w18.drew = w19 at HO259 BK256 BK266 HB hHeld ⊢
      refine pure_ (i:=1) (N:=some 34) (v:=?_) (a':=?_) #[false,true,false,false,false,false,false,false,false,false,false] rfl rfl (any_of HT_.out (by kernel_rfl)) (fun _ _ _ h => h) (Or.inl ⟨by rfl,?_⟩) ?_ ?_
      rotate_left
      ·intro w'
       go_simp
       with_reducible rfl
      rotate_left
      ·simp only [Act.put,List.setIfInBounds_toArray,List.set_cons_zero,List.set_cons_succ,i64_w,i32_w]
       rfl
      refine pure_ (i:=2) (N:=some 35) (v:=?_) (a':=?_) #[false,true,true,false,false,false,false,false,false,false,false] rfl rfl (any_of HT_.out (by kernel_rfl)) (fun _ _ _ h => h) (Or.inl ⟨by rfl,?_⟩) ?_ ?_
      rotate_left
      ·intro w'
       go_simp
       with_reducible rfl
      rotate_left
      ·simp only [Act.put,List.setIfInBounds_toArray,List.set_cons_zero,List.set_cons_succ,i64_w,i32_w]
       rfl
      refine pure_ (i:=3) (N:=some 36) (v:=?_) (a':=?_) #[false,true,true,true,false,false,false,false,false,false,false] rfl rfl (any_of HT_.out (by kernel_rfl)) (fun _ _ _ h => h) (Or.inl ⟨by rfl,?_⟩) ?_ ?_
      rotate_left
      ·intro w'
       go_simp
       with_reducible rfl
      rotate_left
      ·simp only [Act.put,List.setIfInBounds_toArray,List.set_cons_zero,List.set_cons_succ,i64_w,i32_w]
       rfl
      refine pure_ (i:=4) (N:=some 37) (v:=?_) (a':=?_) #[false,true,true,true,true,false,false,false,false,false,false] rfl rfl (any_of HT_.out (by kernel_rfl)) (fun _ _ _ h => h) (Or.inl ⟨by rfl,?_⟩) ?_ ?_
      rotate_left
      ·intro w'
       go_simp
       with_reducible rfl
      rotate_left
      ·simp only [Act.put,List.setIfInBounds_toArray,List.set_cons_zero,List.set_cons_succ,i64_w,i32_w]
       rfl
      refine pure_ (i:=5) (N:=some 38) (v:=?_) (a':=?_) #[false,true,true,true,true,true,false,false,false,false,false] rfl rfl (any_of HT_.out (by kernel_rfl)) (fun _ _ _ h => h) (Or.inl ⟨by rfl,?_⟩) ?_ ?_
      rotate_left
      ·intro w'
       go_simp
       with_reducible rfl
      rotate_left
      ·simp only [Act.put,List.setIfInBounds_toArray,List.set_cons_zero,List.set_cons_succ,i64_w,i32_w]
       rfl
      refine take_ (i:=0) (N:=some 33) (v:=?_) (a':=?_) #[true,true,true,true,true,true,false,false,false,false,false] rfl rfl (take_ofW HT_.out HW_.out (by kernel_rfl)) (fun _ _ _ h => h) (Or.inl ⟨by rfl,?_⟩) hHeld ?_ ?_
      rotate_left
      ·rintro w' ⟨s0,s1⟩
       go_simp
       with_reducible rfl
      rotate_left
      ·simp only [Act.put,List.setIfInBounds_toArray,List.set_cons_zero,List.set_cons_succ,i64_w,i32_w]
       rfl
      refine take_ (i:=6) (N:=some 39) (v:=?_) (a':=?_) #[true,true,true,true,true,true,true,false,false,false,false] rfl rfl (take_ofW HT_.out HW_.out (by kernel_rfl)) (fun _ _ _ h => h) (Or.inl ⟨by rfl,?_⟩) hHeld ?_ ?_
      rotate_left
      ·rintro w' ⟨s0,s1⟩
       go_simp
       with_reducible rfl
      rotate_left
      ·simp only [Act.put,List.setIfInBounds_toArray,List.set_cons_zero,List.set_cons_succ,i64_w,i32_w]
       rfl
      refine one_ (i:=7) (N:=some 40) #[true,true,true,true,true,true,true,true,false,false,false] rfl rfl (one_of HT_.out (by kernel_rfl)) (by decide) (fun K hK => ?_)
      refine goes_ Tryd.func30 (by kernel_rfl) rfl #[.agg #[.int .i64 t261,.int .i64 t264]] (by rfl) rfl rfl (by (try simp only [List.map_toArray,List.map_cons,List.map_nil]);first | done | rfl|(simp only [List.length_drop,List.length_take];rfl)) ?_
      with_reducible refine (spec_NetOK.calls t261 t264 t267 _ A10.out).mono ?_
      rintro e w20 ⟨rfl,hb⟩
      refine ⟨_,rfl,?_⟩
      have n0_:=aMk (Kd.R_below (by (with_reducible repeat (first|apply Kd.R_alloc|apply Kd.R_drewN|apply Kd.R_drew));exact HO259.out) hb)
      have n1_:=aMk (blk_below (g:=gb256) (o:=.cells #[.int .i64 0,.int .i64 0] 30 (0,0)) (by (with_reducible repeat (first|refine bDn ?_ _|refine bDr ?_|refine bAl ?_ _));exact BK256.out) hb)
      have n2_:=aMk (blk_below (g:=gb266) (o:=.cells #[.int .i64 t261,.int .i64 t264] 30 (0,0)) (by (with_reducible repeat (first|refine bDn ?_ _|refine bDr ?_|refine bAl ?_ _));exact BK266.out) hb)
      have n3_:=aMk (below_step (by repeat (first|(with_reducible first|exact HB.out|apply bwA|apply bwN|apply bw1|refine below_set ?_ GE256.out|refine below_set ?_ GE266.out)|exact HB.out)) hb)
      clear HO259
      clear BK256
      clear BK266
      clear HB
      have HO259:=n0_
      have BK256:=n1_
      have BK266:=n2_
      have HB:=n3_
      clear n0_ n1_ n2_ n3_
      (try clear hb)
      (try clear hb2)
      (try clear hk)
      (try clear hi)
      refine hK.out _ _ ⟨(bCe BK266.out 0).trans rfl,(bCe BK266.out 1).trans rfl⟩ (fun hHeld => ?_)
      clear hK K
      refine norm_ (a':=?_) ?_ ?_
      rotate_left
      ·show Act.put _ (some 40) _ = _
       simp only [Act.put,List.setIfInBounds_toArray,List.set_cons_zero,List.set_cons_succ,i64_w,i32_w]
       rfl
      refine pure_ (i:=8) (N:=some 41) (v:=?_) (a':=?_) #[true,true,true,true,true,true,true,true,true,false,false] rfl rfl (any_of HT_.out (by kernel_rfl)) (fun _ _ _ h => h) (Or.inl ⟨by rfl,?_⟩) ?_ ?_
      rotate_left
      ·intro w'
       go_simp
       with_reducible rfl
      rotate_left
      ·simp only [Act.put,List.setIfInBounds_toArray,List.set_cons_zero,List.set_cons_succ,i64_w,i32_w]
       rfl
      refine one_ (i:=9) (N:=none) #[true,true,true,true,true,true,true,true,true,true,false] rfl rfl (one_of HT_.out (by kernel_rfl)) (by decide) (fun K hK => ?_)
      have hs21 : w20.cell? ⟨gb256,0,none⟩ = some (.int .i64 0):=(bCe BK256.out 0).trans rfl
      have hfs21:=bFr BK256.out 0
      have hns21_1:=NB266_256.out
      have hms21_1:=NB256_266.out
      have hs22 : w20.cell? ⟨gb256,1,none⟩ = some (.int .i64 0):=(bCe BK256.out 1).trans rfl
      have hfs22:=bFr BK256.out 1
      have hns22_1:=NB266_256.out
      have hms22_1:=NB256_266.out
      refine skip_ (w1:=?_) (by rfl) rfl ?_ ?_
      rotate_left
      ·go_simp
       rfl
      refine hK.out _ _ ⟨((cell_far (p:=⟨gb256,_,none⟩) NB266_256.out _).trans (((cell_far (p:=⟨gb256,_,none⟩) NB266_256.out _).trans (hHeld.1)))),((cell_far (p:=⟨gb256,_,none⟩) NB266_256.out _).trans (((cell_far (p:=⟨gb256,_,none⟩) NB266_256.out _).trans (hHeld.2))))⟩ (fun hHeld => ?_)
      clear hK K
      refine pure_ (i:=10) (N:=some 3) (v:=?_) (a':=?_) #[true,true,true,true,true,true,true,true,true,true,true] rfl rfl (any_of HT_.out (by kernel_rfl)) (fun _ _ _ h => h) (Or.inl ⟨by rfl,?_⟩) ?_ ?_
      rotate_left
      ·intro w'
       go_simp
       with_reducible rfl
      rotate_left
      ·simp only [Act.put,List.setIfInBounds_toArray,List.set_cons_zero,List.set_cons_succ,i64_w,i32_w]
       rfl
      refine done_ (done_of HT_.out (by kernel_rfl)) ?_
      try go_wp2
      refine bodyPost_ret (results_ct rfl _ _ gb256 30 #[.int .i64 t261,.int .i64 t264] (0,0) _ rfl (by (with_reducible repeat (first|refine bDn ?_ _|refine bDr ?_|refine bAl ?_ _));refine blk_put (cs:=#[.int .i64 t261,.int .i64 0]) ?_ 1 _ rfl;(with_reducible repeat (first|refine bDn ?_ _|refine bDr ?_|refine bAl ?_ _));refine blk_put (cs:=#[.int .i64 0,.int .i64 0]) ?_ 0 _ rfl;(with_reducible repeat (first|refine bDn ?_ _|refine bDr ?_|refine bAl ?_ _));exact BK256.out) Tryd.underlying30 rfl (by kernel_rfl)) rfl ?_
      exact ⟨by first | rfl|(simp [errW_none,errW_some] <;> rfl)|(simp [*,errW_none,errW_some] <;> rfl),by repeat (first|(with_reducible first|exact HB.out|apply bwA|apply bwN|apply bw1|refine below_set ?_ GE256.out|refine below_set ?_ GE266.out)|exact HB.out)⟩
     ·replace c9:=Bool.eq_false_iff.mpr c9
      subst c9
      have H1 : (some (t261,t264,false)) = some (r1,r2,r3):=by rw [if_neg (show ¬ (false = true) by decide)] at H;exact H
      clear H
      have H:=H1
      clear H1
      simp only [Option.some.injEq,Prod.mk.injEq] at H
      obtain ⟨rfl,rfl,rfl⟩:=H
      go_enter Tryd.func41,Tryd.ntmps41
      try go_wp2_with (first|((with_reducible refine gate_dst (N:=2) rfl ?_);refine box_event ?hg (N:=2) ?hd (cs:=#[.int .i64 0,.int .i64 0]) (t:=30) ?hr ?_;(case hd => rfl);(case hg => rfl);(case hr => first|(go_simp;done)|(go_simp;rfl));intro gb256 hg w23 hbox hb;have n0_:=aMk (below_step (by repeat first|exact HB.out|apply bwA|apply bwN|apply bw1) hb);have n1_:=aMk (hbox);have n2_:=aMk ((by rw [hg];exact (below_size (by repeat first|exact HB.out|apply bwA|apply bwN|apply bw1)) : w.heap.size ≤ gb256));have n3_:=aMk ((by rw [hg];exact (below_size (by repeat first|exact HB.out|apply bwA|apply bwN|apply bw1)) : w.heap.size ≤ gb256));clear HB;have HB:=n0_;have BK256:=n1_;have GW256:=n2_;have GE256:=n3_;clear n0_ n1_ n2_ n3_;clear hb hbox hg)|((with_reducible refine gate_callee (f:=59) rfl ?_);refine goesL_ (some 11) rfl rfl Tryd.func59 (by kernel_rfl) rfl #[.string a0,.int .u8 47] rfl (by (try simp only [List.map_toArray,List.map_cons,List.map_nil]);first | done | rfl|(simp only [List.length_drop,List.length_take];rfl)) ?_;(with_reducible refine (spec_l00Cut.calls k a0 47 t257 _ A2.out).mono ?_);rintro e w24 ⟨v258,rfl,ho0,hb⟩;refine ⟨_,rfl,?_⟩;have n0_:=aMk (Kd.R_lower ho0 (below_size (by repeat (first|(with_reducible first|exact HB.out|apply bwA|apply bwN|apply bw1|refine below_set ?_ GE256.out)|exact HB.out))));have n1_:=aMk (blk_below (g:=gb256) (o:=.cells #[.int .i64 0,.int .i64 0] 30 (0,0)) (by (with_reducible repeat (first|refine bDn ?_ _|refine bDr ?_|refine bAl ?_ _));exact BK256.out) hb);have n2_:=aMk (below_step (by repeat (first|(with_reducible first|exact HB.out|apply bwA|apply bwN|apply bw1|refine below_set ?_ GE256.out)|exact HB.out)) hb);clear BK256;clear HB;have HO259:=n0_;have BK256:=n1_;have HB:=n2_;clear n0_ n1_ n2_;(try clear hb);(try clear hb2);(try clear hk);(try clear hi);(try clear ho0);obtain ⟨Ao25,co25,eo25⟩:=Kd.R_slice HO259.out;subst eo25;have p260 : 0 ≤ (0 : Int):=(by omega);have q260 : 0 < (t257.length : Int):=of_decide_eq_true (by first|(with_reducible assumption) | assumption);obtain ⟨ad260,e260,hx260_0⟩:=Kd.at_string (Kd.R_reads' HO259.out).2.2 0 p260 q260;cases e260;have qi260 : (0 < t257.length) = True:=eq_true (by omega);(try rw [show ((0 : Int)).toNat = 0 from rfl] at hx260_0);(try rw [Addr.add_zero'] at hx260_0);replace p260:=eq_true p260;replace q260:=eq_true q260)|((with_reducible refine gate_callee (f:=60) rfl ?_);refine goesL_ (some 20) rfl rfl Tryd.func60 (by kernel_rfl) rfl #[.string (rdOf ByteArray.empty t257 0)] rfl (by (try simp only [List.map_toArray,List.map_cons,List.map_nil]);first | done | rfl|(simp only [List.length_drop,List.length_take];rfl)) ?_;(with_reducible refine (spec_l01ReadAddress.calls k (rdOf ByteArray.empty t257 0) t261 true _ A5.out).mono ?_);rintro e w26 ⟨rfl,hb⟩;refine ⟨_,rfl,?_⟩;have n0_:=aMk (Kd.R_below (by (with_reducible repeat (first|apply Kd.R_alloc|apply Kd.R_drewN|apply Kd.R_drew));exact HO259.out) hb);have n1_:=aMk (blk_below (g:=gb256) (o:=.cells #[.int .i64 0,.int .i64 0] 30 (0,0)) (by (with_reducible repeat (first|refine bDn ?_ _|refine bDr ?_|refine bAl ?_ _));exact BK256.out) hb);have n2_:=aMk (below_step (by repeat (first|(with_reducible first|exact HB.out|apply bwA|apply bwN|apply bw1|refine below_set ?_ GE256.out)|exact HB.out)) hb);clear HO259;clear BK256;clear HB;have HO259:=n0_;have BK256:=n1_;have HB:=n2_;clear n0_ n1_ n2_;(try clear hb);(try clear hb2);(try clear hk);(try clear hi);have p263 : 0 ≤ (1 : Int):=(by omega);have q263 : 1 < (t257.length : Int):=of_decide_eq_true (by first|(with_reducible assumption) | assumption);obtain ⟨ad263,e263,hx263_0⟩:=Kd.at_string (Kd.R_reads' HO259.out).2.2 1 p263 q263;obtain rfl : ad260 = ad263:=(by injection e263);(try simp only [show (1 : Int).toNat = 1 from rfl,Nat.reduceMul,Nat.reduceEqDiff,Go.Addr.add,↓reduceIte] at hx263_0);have qi263 : (1 < t257.length) = True:=eq_true (by omega);(try rw [show ((1 : Int)).toNat = 1 from rfl] at hx263_0);replace p263:=eq_true p263;replace q263:=eq_true q263)|((with_reducible refine gate_callee (f:=42) rfl ?_);refine goesL_ (some 27) rfl rfl Tryd.func42 (by kernel_rfl) rfl #[.string (rdOf ByteArray.empty t257 1)] rfl (by (try simp only [List.map_toArray,List.map_cons,List.map_nil]);first | done | rfl|(simp only [List.length_drop,List.length_take];rfl)) ?_;(with_reducible refine (spec_l00Number.calls k (rdOf ByteArray.empty t257 1) t264 false _ A7.out).mono ?_);rintro e w' ⟨rfl,⟨nd,rfl⟩⟩;refine ⟨_,rfl,?_⟩;(try (rw [drewN_self w26];generalize hq_ : World.drewN w26 _ = w26;have n0_ : Aside0 (Kd.R Kd.string 9 w26 w.heap.size (fun _ => True) (.slice (some ad260) t257.length co25) t257):=⟨by rw [← hq_];exact (by (with_reducible repeat (first|apply Kd.R_alloc|apply Kd.R_drewN|apply Kd.R_drew));exact HO259.out)⟩;have n1_ : Aside0 (w26.heap[gb256]? = some (.cells #[.int .i64 0,.int .i64 0] 30 (0,0))):=⟨by rw [← hq_];exact (by (with_reducible repeat (first|refine bDn ?_ _|refine bDr ?_|refine bAl ?_ _));exact BK256.out)⟩;have n2_ : Aside0 (Below w.heap.size w w26):=⟨by rw [← hq_];exact (by repeat (first|(with_reducible first|exact HB.out|apply bwA|apply bwN|apply bw1|refine below_set ?_ GE256.out)|exact HB.out))⟩;clear HO259 BK256 HB hq_;have HO259:=n0_;have BK256:=n1_;have HB:=n2_;clear n0_ n1_ n2_)))|((with_reducible refine gate_dst (N:=9) rfl ?_);refine box_event ?hg (N:=9) ?hd (cs:=#[.int .i64 0,.int .i64 0]) (t:=30) ?hr ?_;(case hd => rfl);(case hg => rfl);(case hr => first|(go_simp;done)|(go_simp;rfl));intro gb266 hg w27 hbox hb;have n0_:=aMk (Kd.R_below (by (with_reducible repeat (first|apply Kd.R_alloc|apply Kd.R_drewN|apply Kd.R_drew));exact HO259.out) hb);have n1_:=aMk (blk_below (g:=gb256) (o:=.cells #[.int .i64 0,.int .i64 0] 30 (0,0)) (by (with_reducible repeat (first|refine bDn ?_ _|refine bDr ?_|refine bAl ?_ _));exact BK256.out) hb);have n2_:=aMk (below_step (by repeat (first|(with_reducible first|exact HB.out|apply bwA|apply bwN|apply bw1|refine below_set ?_ GE256.out)|exact HB.out)) hb);have n3_:=aMk (hbox);have n4_:=aMk ((by rw [hg];exact (below_size (by repeat (first|(with_reducible first|exact HB.out|apply bwA|apply bwN|apply bw1|refine below_set ?_ GE256.out)|exact HB.out))) : w.heap.size ≤ gb266));have n5_:=aMk ((by rw [hg];exact (below_size (by repeat (first|(with_reducible first|exact HB.out|apply bwA|apply bwN|apply bw1|refine below_set ?_ GE256.out)|exact HB.out))) : w.heap.size ≤ gb266));have n6_:=aMk ((by rw [hg];exact Nat.ne_of_lt (blk_lt (g:=gb256) (o:=.cells #[.int .i64 0,.int .i64 0] 30 (0,0)) (by (with_reducible repeat (first|refine bDn ?_ _|refine bDr ?_|refine bAl ?_ _));exact BK256.out)) : gb256 ≠ gb266));have n7_:=aMk ((by rw [hg];exact Nat.ne_of_gt (blk_lt (g:=gb256) (o:=.cells #[.int .i64 0,.int .i64 0] 30 (0,0)) (by (with_reducible repeat (first|refine bDn ?_ _|refine bDr ?_|refine bAl ?_ _));exact BK256.out)) : gb266 ≠ gb256));clear HO259;clear BK256;clear HB;have HO259:=n0_;have BK256:=n1_;have HB:=n2_;have BK266:=n3_;have GW266:=n4_;have GE266:=n5_;have NB256_266:=n6_;have NB266_256:=n7_;clear n0_ n1_ n2_ n3_ n4_ n5_ n6_ n7_;clear hb hbox hg;have hnb28:=NB266_256.out;have hnc28:=NB256_266.out;have hcz29_0 : w27.cell? ⟨gb266,0,none⟩ = some (.int .i64 0):=(bCe BK266.out 0).trans rfl;have hcz29_1 : w27.cell? ⟨gb266,1,none⟩ = some (.int .i64 0):=(bCe BK266.out 1).trans rfl;have hfz29_0:=bFr BK266.out 0;have hfz29_1:=bFr BK266.out 1))
      (try (repeat rw [show ∀ (w_ : World) (n_ : Nat) (a_ : Addr) (v_ : Value),(w_.drewN n_).setCell a_ v_ = (w_.setCell a_ v_).drewN n_ from fun _ _ _ _ => rfl]));(try (repeat rw [World.drewN_drewN]))
      have n0_ : Aside0 (Kd.R Kd.string 9 ((w27.setCell ⟨gb266,0,none⟩ (.int .i64 t261)).setCell ⟨gb266,1,none⟩ (.int .i64 t264)) w.heap.size (fun _ => True) (.slice (some ad260) t257.length co25) t257):=⟨by (with_reducible repeat (first|apply Kd.R_alloc|apply Kd.R_drewN|apply Kd.R_drew));exact Kd.R_mono (Kd.R_far (p:=⟨gb266,1,none⟩) (Kd.R_far (p:=⟨gb266,0,none⟩) (Kd.R_types HO259.out BK266.out (by decide)) (fun _ hk => hk.2) (.int .i64 t261)) (fun _ hk => hk.2) (.int .i64 t264)) (fun _ hk => trivial)⟩
      have n1_ : Aside0 (((w27.setCell ⟨gb266,0,none⟩ (.int .i64 t261)).setCell ⟨gb266,1,none⟩ (.int .i64 t264)).heap[gb256]? = some (.cells #[.int .i64 0,.int .i64 0] 30 (0,0))):=⟨by (with_reducible repeat (first|refine bDn ?_ _|refine bDr ?_|refine bAl ?_ _));refine blk_far ?_ NB256_266.out _;(with_reducible repeat (first|refine bDn ?_ _|refine bDr ?_|refine bAl ?_ _));refine blk_far ?_ NB256_266.out _;(with_reducible repeat (first|refine bDn ?_ _|refine bDr ?_|refine bAl ?_ _));exact BK256.out⟩
      have n2_ : Aside0 (((w27.setCell ⟨gb266,0,none⟩ (.int .i64 t261)).setCell ⟨gb266,1,none⟩ (.int .i64 t264)).heap[gb266]? = some (.cells #[.int .i64 t261,.int .i64 t264] 30 (0,0))):=⟨by (with_reducible repeat (first|refine bDn ?_ _|refine bDr ?_|refine bAl ?_ _));refine blk_put (cs:=#[.int .i64 t261,.int .i64 0]) ?_ 1 _ rfl;(with_reducible repeat (first|refine bDn ?_ _|refine bDr ?_|refine bAl ?_ _));refine blk_put (cs:=#[.int .i64 0,.int .i64 0]) ?_ 0 _ rfl;(with_reducible repeat (first|refine bDn ?_ _|refine bDr ?_|refine bAl ?_ _));exact BK266.out⟩
      have n3_ : Aside0 (Below w.heap.size w ((w27.setCell ⟨gb266,0,none⟩ (.int .i64 t261)).setCell ⟨gb266,1,none⟩ (.int .i64 t264))):=⟨by repeat (first|(with_reducible first|exact HB.out|apply bwA|apply bwN|apply bw1|refine below_set ?_ GE256.out|refine below_set ?_ GE266.out)|exact HB.out)⟩
      (try clear HO259)
      (try clear BK256)
      (try clear BK266)
      (try clear HB)
      generalize ((w27.setCell ⟨gb266,0,none⟩ (.int .i64 t261)).setCell ⟨gb266,1,none⟩ (.int .i64 t264)) = w30 at n0_ n1_ n2_ n3_ ⊢
      have HO259:=n0_
      have BK256:=n1_
      have BK266:=n2_
      have HB:=n3_
      clear n0_ n1_ n2_ n3_
      have n0_:=aMk (Kd.R_drew HO259.out)
      have n1_:=aMk (bDr BK256.out)
      have n2_:=aMk (bDr BK266.out)
      have n3_:=aMk (bw1 HB.out)
      clear HO259
      clear BK256
      clear BK266
      clear HB
      have HO259:=n0_
      have BK256:=n1_
      have BK266:=n2_
      have HB:=n3_
      clear n0_ n1_ n2_ n3_
      refine start_ (n:=11) (S:=fun w' => w'.cell? ⟨gb266,0,none⟩ = some (.int .i64 t261) ∧ w'.cell? ⟨gb266,1,none⟩ = some (.int .i64 t264)) (ds:=[]) #[false,false,false,false,false,false,false,false,false,false,false] (by kernel_rfl) rfl rfl ⟨(bCe BK266.out 0).trans rfl,(bCe BK266.out 1).trans rfl⟩ (fun hHeld => ?_);refine with_tabW spec_l05Read.tab7 spec_l05Read.bits7 (fun HT_ HW_ => ?_)
      generalize w30.drew = w31 at HO259 BK256 BK266 HB hHeld ⊢
      refine pure_ (i:=1) (N:=some 34) (v:=?_) (a':=?_) #[false,true,false,false,false,false,false,false,false,false,false] rfl rfl (any_of HT_.out (by kernel_rfl)) (fun _ _ _ h => h) (Or.inl ⟨by rfl,?_⟩) ?_ ?_
      rotate_left
      ·intro w'
       go_simp
       with_reducible rfl
      rotate_left
      ·simp only [Act.put,List.setIfInBounds_toArray,List.set_cons_zero,List.set_cons_succ,i64_w,i32_w]
       rfl
      refine pure_ (i:=2) (N:=some 35) (v:=?_) (a':=?_) #[false,true,true,false,false,false,false,false,false,false,false] rfl rfl (any_of HT_.out (by kernel_rfl)) (fun _ _ _ h => h) (Or.inl ⟨by rfl,?_⟩) ?_ ?_
      rotate_left
      ·intro w'
       go_simp
       with_reducible rfl
      rotate_left
      ·simp only [Act.put,List.setIfInBounds_toArray,List.set_cons_zero,List.set_cons_succ,i64_w,i32_w]
       rfl
      refine pure_ (i:=3) (N:=some 36) (v:=?_) (a':=?_) #[false,true,true,true,false,false,false,false,false,false,false] rfl rfl (any_of HT_.out (by kernel_rfl)) (fun _ _ _ h => h) (Or.inl ⟨by rfl,?_⟩) ?_ ?_
      rotate_left
      ·intro w'
       go_simp
       with_reducible rfl
      rotate_left
      ·simp only [Act.put,List.setIfInBounds_toArray,List.set_cons_zero,List.set_cons_succ,i64_w,i32_w]
       rfl
      refine pure_ (i:=4) (N:=some 37) (v:=?_) (a':=?_) #[false,true,true,true,true,false,false,false,false,false,false] rfl rfl (any_of HT_.out (by kernel_rfl)) (fun _ _ _ h => h) (Or.inl ⟨by rfl,?_⟩) ?_ ?_
      rotate_left
      ·intro w'
       go_simp
       with_reducible rfl
      rotate_left
      ·simp only [Act.put,List.setIfInBounds_toArray,List.set_cons_zero,List.set_cons_succ,i64_w,i32_w]
       rfl
      refine pure_ (i:=5) (N:=some 38) (v:=?_) (a':=?_) #[false,true,true,true,true,true,false,false,false,false,false] rfl rfl (any_of HT_.out (by kernel_rfl)) (fun _ _ _ h => h) (Or.inl ⟨by rfl,?_⟩) ?_ ?_
      rotate_left
      ·intro w'
       go_simp
       with_reducible rfl
      rotate_left
      ·simp only [Act.put,List.setIfInBounds_toArray,List.set_cons_zero,List.set_cons_succ,i64_w,i32_w]
       rfl
      refine pure_ (i:=6) (N:=some 39) (v:=undef) (a':=?_) #[false,true,true,true,true,true,true,false,false,false,false] rfl rfl (any_of HT_.out (by kernel_rfl)) (fun _ _ _ h => h) (Or.inr ⟨by rfl,rfl⟩) ?_ ?_
      rotate_left
      ·simp only [Act.put,List.setIfInBounds_toArray,List.set_cons_zero,List.set_cons_succ,i64_w,i32_w]
       rfl
      refine pure_ (i:=7) (N:=some 40) (v:=undef) (a':=?_) #[false,true,true,true,true,true,true,true,false,false,false] rfl rfl (any_of HT_.out (by kernel_rfl)) (fun _ _ _ h => h) (Or.inr ⟨by rfl,rfl⟩) ?_ ?_
      rotate_left
      ·simp only [Act.put,List.setIfInBounds_toArray,List.set_cons_zero,List.set_cons_succ,i64_w,i32_w]
       rfl
      refine pure_ (i:=8) (N:=some 41) (v:=?_) (a':=?_) #[false,true,true,true,true,true,true,true,true,false,false] rfl rfl (any_of HT_.out (by kernel_rfl)) (fun _ _ _ h => h) (Or.inl ⟨by rfl,?_⟩) ?_ ?_
      rotate_left
      ·intro w'
       go_simp
       with_reducible rfl
      rotate_left
      ·simp only [Act.put,List.setIfInBounds_toArray,List.set_cons_zero,List.set_cons_succ,i64_w,i32_w]
       rfl
      refine take_ (i:=0) (N:=some 33) (v:=?_) (a':=?_) #[true,true,true,true,true,true,true,true,true,false,false] rfl rfl (take_ofW HT_.out HW_.out (by kernel_rfl)) (fun _ _ _ h => h) (Or.inl ⟨by rfl,?_⟩) hHeld ?_ ?_
      rotate_left
      ·rintro w' ⟨s0,s1⟩
       go_simp
       with_reducible rfl
      rotate_left
      ·simp only [Act.put,List.setIfInBounds_toArray,List.set_cons_zero,List.set_cons_succ,i64_w,i32_w]
       rfl
      refine one_ (i:=9) (N:=none) #[true,true,true,true,true,true,true,true,true,true,false] rfl rfl (one_of HT_.out (by kernel_rfl)) (by decide) (fun K hK => ?_)
      have hs32 : w31.cell? ⟨gb256,0,none⟩ = some (.int .i64 0):=(bCe BK256.out 0).trans rfl
      have hfs32:=bFr BK256.out 0
      have hns32_1:=NB266_256.out
      have hms32_1:=NB256_266.out
      have hs33 : w31.cell? ⟨gb256,1,none⟩ = some (.int .i64 0):=(bCe BK256.out 1).trans rfl
      have hfs33:=bFr BK256.out 1
      have hns33_1:=NB266_256.out
      have hms33_1:=NB256_266.out
      refine skip_ (w1:=?_) (by rfl) rfl ?_ ?_
      rotate_left
      ·go_simp
       rfl
      refine hK.out _ _ ⟨((cell_far (p:=⟨gb256,_,none⟩) NB266_256.out _).trans (((cell_far (p:=⟨gb256,_,none⟩) NB266_256.out _).trans (hHeld.1)))),((cell_far (p:=⟨gb256,_,none⟩) NB266_256.out _).trans (((cell_far (p:=⟨gb256,_,none⟩) NB266_256.out _).trans (hHeld.2))))⟩ (fun hHeld => ?_)
      clear hK K
      refine pure_ (i:=10) (N:=some 3) (v:=?_) (a':=?_) #[true,true,true,true,true,true,true,true,true,true,true] rfl rfl (any_of HT_.out (by kernel_rfl)) (fun _ _ _ h => h) (Or.inl ⟨by rfl,?_⟩) ?_ ?_
      rotate_left
      ·intro w'
       go_simp
       with_reducible rfl
      rotate_left
      ·simp only [Act.put,List.setIfInBounds_toArray,List.set_cons_zero,List.set_cons_succ,i64_w,i32_w]
       rfl
      refine done_ (done_of HT_.out (by kernel_rfl)) ?_
      try go_wp2
      refine bodyPost_ret (results_ct rfl _ _ gb256 30 #[.int .i64 t261,.int .i64 t264] (0,0) _ rfl (by (with_reducible repeat (first|refine bDn ?_ _|refine bDr ?_|refine bAl ?_ _));refine blk_put (cs:=#[.int .i64 t261,.int .i64 0]) ?_ 1 _ rfl;(with_reducible repeat (first|refine bDn ?_ _|refine bDr ?_|refine bAl ?_ _));refine blk_put (cs:=#[.int .i64 0,.int .i64 0]) ?_ 0 _ rfl;(with_reducible repeat (first|refine bDn ?_ _|refine bDr ?_|refine bAl ?_ _));exact BK256.out) Tryd.underlying30 rfl (by kernel_rfl)) rfl ?_
      exact ⟨by first | rfl|(simp [errW_none,errW_some] <;> rfl)|(simp [*,errW_none,errW_some] <;> rfl),by repeat (first|(with_reducible first|exact HB.out|apply bwA|apply bwN|apply bw1|refine below_set ?_ GE256.out|refine below_set ?_ GE266.out)|exact HB.out)⟩
    ·replace c8:=Bool.eq_false_iff.mpr c8
     subst c8
     have H1 : (some (t261,t264,false)) = some (r1,r2,r3):=by rw [if_neg (show ¬ (false = true) by decide)] at H;exact H
     clear H
     have H:=H1
     clear H1
     simp only [Option.some.injEq,Prod.mk.injEq] at H
     obtain ⟨rfl,rfl,rfl⟩:=H
     go_enter Tryd.func41,Tryd.ntmps41
     try go_wp2_with (first|((with_reducible refine gate_dst (N:=2) rfl ?_);refine box_event ?hg (N:=2) ?hd (cs:=#[.int .i64 0,.int .i64 0]) (t:=30) ?hr ?_;(case hd => rfl);(case hg => rfl);(case hr => first|(go_simp;done)|(go_simp;rfl));intro gb256 hg w34 hbox hb;have n0_:=aMk (below_step (by repeat first|exact HB.out|apply bwA|apply bwN|apply bw1) hb);have n1_:=aMk (hbox);have n2_:=aMk ((by rw [hg];exact (below_size (by repeat first|exact HB.out|apply bwA|apply bwN|apply bw1)) : w.heap.size ≤ gb256));have n3_:=aMk ((by rw [hg];exact (below_size (by repeat first|exact HB.out|apply bwA|apply bwN|apply bw1)) : w.heap.size ≤ gb256));clear HB;have HB:=n0_;have BK256:=n1_;have GW256:=n2_;have GE256:=n3_;clear n0_ n1_ n2_ n3_;clear hb hbox hg)|((with_reducible refine gate_callee (f:=59) rfl ?_);refine goesL_ (some 11) rfl rfl Tryd.func59 (by kernel_rfl) rfl #[.string a0,.int .u8 47] rfl (by (try simp only [List.map_toArray,List.map_cons,List.map_nil]);first | done | rfl|(simp only [List.length_drop,List.length_take];rfl)) ?_;(with_reducible refine (spec_l00Cut.calls k a0 47 t257 _ A2.out).mono ?_);rintro e w35 ⟨v258,rfl,ho0,hb⟩;refine ⟨_,rfl,?_⟩;have n0_:=aMk (Kd.R_lower ho0 (below_size (by repeat (first|(with_reducible first|exact HB.out|apply bwA|apply bwN|apply bw1|refine below_set ?_ GE256.out)|exact HB.out))));have n1_:=aMk (blk_below (g:=gb256) (o:=.cells #[.int .i64 0,.int .i64 0] 30 (0,0)) (by (with_reducible repeat (first|refine bDn ?_ _|refine bDr ?_|refine bAl ?_ _));exact BK256.out) hb);have n2_:=aMk (below_step (by repeat (first|(with_reducible first|exact HB.out|apply bwA|apply bwN|apply bw1|refine below_set ?_ GE256.out)|exact HB.out)) hb);clear BK256;clear HB;have HO259:=n0_;have BK256:=n1_;have HB:=n2_;clear n0_ n1_ n2_;(try clear hb);(try clear hb2);(try clear hk);(try clear hi);(try clear ho0);obtain ⟨Ao36,co36,eo36⟩:=Kd.R_slice HO259.out;subst eo36;have p260 : 0 ≤ (0 : Int):=(by omega);have q260 : 0 < (t257.length : Int):=of_decide_eq_true (by first|(with_reducible assumption) | assumption);obtain ⟨ad260,e260,hx260_0⟩:=Kd.at_string (Kd.R_reads' HO259.out).2.2 0 p260 q260;cases e260;have qi260 : (0 < t257.length) = True:=eq_true (by omega);(try rw [show ((0 : Int)).toNat = 0 from rfl] at hx260_0);(try rw [Addr.add_zero'] at hx260_0);replace p260:=eq_true p260;replace q260:=eq_true q260)|((with_reducible refine gate_callee (f:=60) rfl ?_);refine goesL_ (some 20) rfl rfl Tryd.func60 (by kernel_rfl) rfl #[.string (rdOf ByteArray.empty t257 0)] rfl (by (try simp only [List.map_toArray,List.map_cons,List.map_nil]);first | done | rfl|(simp only [List.length_drop,List.length_take];rfl)) ?_;(with_reducible refine (spec_l01ReadAddress.calls k (rdOf ByteArray.empty t257 0) t261 false _ A5.out).mono ?_);rintro e w37 ⟨rfl,hb⟩;refine ⟨_,rfl,?_⟩;have n0_:=aMk (Kd.R_below (by (with_reducible repeat (first|apply Kd.R_alloc|apply Kd.R_drewN|apply Kd.R_drew));exact HO259.out) hb);have n1_:=aMk (blk_below (g:=gb256) (o:=.cells #[.int .i64 0,.int .i64 0] 30 (0,0)) (by (with_reducible repeat (first|refine bDn ?_ _|refine bDr ?_|refine bAl ?_ _));exact BK256.out) hb);have n2_:=aMk (below_step (by repeat (first|(with_reducible first|exact HB.out|apply bwA|apply bwN|apply bw1|refine below_set ?_ GE256.out)|exact HB.out)) hb);clear HO259;clear BK256;clear HB;have HO259:=n0_;have BK256:=n1_;have HB:=n2_;clear n0_ n1_ n2_;(try clear hb);(try clear hb2);(try clear hk);(try clear hi);have p263 : 0 ≤ (1 : Int):=(by omega);have q263 : 1 < (t257.length : Int):=of_decide_eq_true (by first|(with_reducible assumption) | assumption);obtain ⟨ad263,e263,hx263_0⟩:=Kd.at_string (Kd.R_reads' HO259.out).2.2 1 p263 q263;obtain rfl : ad260 = ad263:=(by injection e263);(try simp only [show (1 : Int).toNat = 1 from rfl,Nat.reduceMul,Nat.reduceEqDiff,Go.Addr.add,↓reduceIte] at hx263_0);have qi263 : (1 < t257.length) = True:=eq_true (by omega);(try rw [show ((1 : Int)).toNat = 1 from rfl] at hx263_0);replace p263:=eq_true p263;replace q263:=eq_true q263)|((with_reducible refine gate_callee (f:=42) rfl ?_);refine goesL_ (some 27) rfl rfl Tryd.func42 (by kernel_rfl) rfl #[.string (rdOf ByteArray.empty t257 1)] rfl (by (try simp only [List.map_toArray,List.map_cons,List.map_nil]);first | done | rfl|(simp only [List.length_drop,List.length_take];rfl)) ?_;(with_reducible refine (spec_l00Number.calls k (rdOf ByteArray.empty t257 1) t264 t265 _ A7.out).mono ?_);rintro e w' ⟨rfl,⟨nd,rfl⟩⟩;refine ⟨_,rfl,?_⟩;(try (rw [drewN_self w37];generalize hq_ : World.drewN w37 _ = w37;have n0_ : Aside0 (Kd.R Kd.string 9 w37 w.heap.size (fun _ => True) (.slice (some ad260) t257.length co36) t257):=⟨by rw [← hq_];exact (by (with_reducible repeat (first|apply Kd.R_alloc|apply Kd.R_drewN|apply Kd.R_drew));exact HO259.out)⟩;have n1_ : Aside0 (w37.heap[gb256]? = some (.cells #[.int .i64 0,.int .i64 0] 30 (0,0))):=⟨by rw [← hq_];exact (by (with_reducible repeat (first|refine bDn ?_ _|refine bDr ?_|refine bAl ?_ _));exact BK256.out)⟩;have n2_ : Aside0 (Below w.heap.size w w37):=⟨by rw [← hq_];exact (by repeat (first|(with_reducible first|exact HB.out|apply bwA|apply bwN|apply bw1|refine below_set ?_ GE256.out)|exact HB.out))⟩;clear HO259 BK256 HB hq_;have HO259:=n0_;have BK256:=n1_;have HB:=n2_;clear n0_ n1_ n2_)))|((with_reducible refine gate_dst (N:=9) rfl ?_);refine box_event ?hg (N:=9) ?hd (cs:=#[.int .i64 0,.int .i64 0]) (t:=30) ?hr ?_;(case hd => rfl);(case hg => rfl);(case hr => first|(go_simp;done)|(go_simp;rfl));intro gb266 hg w38 hbox hb;have n0_:=aMk (Kd.R_below (by (with_reducible repeat (first|apply Kd.R_alloc|apply Kd.R_drewN|apply Kd.R_drew));exact HO259.out) hb);have n1_:=aMk (blk_below (g:=gb256) (o:=.cells #[.int .i64 0,.int .i64 0] 30 (0,0)) (by (with_reducible repeat (first|refine bDn ?_ _|refine bDr ?_|refine bAl ?_ _));exact BK256.out) hb);have n2_:=aMk (below_step (by repeat (first|(with_reducible first|exact HB.out|apply bwA|apply bwN|apply bw1|refine below_set ?_ GE256.out)|exact HB.out)) hb);have n3_:=aMk (hbox);have n4_:=aMk ((by rw [hg];exact (below_size (by repeat (first|(with_reducible first|exact HB.out|apply bwA|apply bwN|apply bw1|refine below_set ?_ GE256.out)|exact HB.out))) : w.heap.size ≤ gb266));have n5_:=aMk ((by rw [hg];exact (below_size (by repeat (first|(with_reducible first|exact HB.out|apply bwA|apply bwN|apply bw1|refine below_set ?_ GE256.out)|exact HB.out))) : w.heap.size ≤ gb266));have n6_:=aMk ((by rw [hg];exact Nat.ne_of_lt (blk_lt (g:=gb256) (o:=.cells #[.int .i64 0,.int .i64 0] 30 (0,0)) (by (with_reducible repeat (first|refine bDn ?_ _|refine bDr ?_|refine bAl ?_ _));exact BK256.out)) : gb256 ≠ gb266));have n7_:=aMk ((by rw [hg];exact Nat.ne_of_gt (blk_lt (g:=gb256) (o:=.cells #[.int .i64 0,.int .i64 0] 30 (0,0)) (by (with_reducible repeat (first|refine bDn ?_ _|refine bDr ?_|refine bAl ?_ _));exact BK256.out)) : gb266 ≠ gb256));clear HO259;clear BK256;clear HB;have HO259:=n0_;have BK256:=n1_;have HB:=n2_;have BK266:=n3_;have GW266:=n4_;have GE266:=n5_;have NB256_266:=n6_;have NB266_256:=n7_;clear n0_ n1_ n2_ n3_ n4_ n5_ n6_ n7_;clear hb hbox hg;have hnb39:=NB266_256.out;have hnc39:=NB256_266.out;have hcz40_0 : w38.cell? ⟨gb266,0,none⟩ = some (.int .i64 0):=(bCe BK266.out 0).trans rfl;have hcz40_1 : w38.cell? ⟨gb266,1,none⟩ = some (.int .i64 0):=(bCe BK266.out 1).trans rfl;have hfz40_0:=bFr BK266.out 0;have hfz40_1:=bFr BK266.out 1))
     (try (repeat rw [show ∀ (w_ : World) (n_ : Nat) (a_ : Addr) (v_ : Value),(w_.drewN n_).setCell a_ v_ = (w_.setCell a_ v_).drewN n_ from fun _ _ _ _ => rfl]));(try (repeat rw [World.drewN_drewN]))
     have n0_ : Aside0 (Kd.R Kd.string 9 ((w38.setCell ⟨gb266,0,none⟩ (.int .i64 t261)).setCell ⟨gb266,1,none⟩ (.int .i64 t264)) w.heap.size (fun _ => True) (.slice (some ad260) t257.length co36) t257):=⟨by (with_reducible repeat (first|apply Kd.R_alloc|apply Kd.R_drewN|apply Kd.R_drew));exact Kd.R_mono (Kd.R_far (p:=⟨gb266,1,none⟩) (Kd.R_far (p:=⟨gb266,0,none⟩) (Kd.R_types HO259.out BK266.out (by decide)) (fun _ hk => hk.2) (.int .i64 t261)) (fun _ hk => hk.2) (.int .i64 t264)) (fun _ hk => trivial)⟩
     have n1_ : Aside0 (((w38.setCell ⟨gb266,0,none⟩ (.int .i64 t261)).setCell ⟨gb266,1,none⟩ (.int .i64 t264)).heap[gb256]? = some (.cells #[.int .i64 0,.int .i64 0] 30 (0,0))):=⟨by (with_reducible repeat (first|refine bDn ?_ _|refine bDr ?_|refine bAl ?_ _));refine blk_far ?_ NB256_266.out _;(with_reducible repeat (first|refine bDn ?_ _|refine bDr ?_|refine bAl ?_ _));refine blk_far ?_ NB256_266.out _;(with_reducible repeat (first|refine bDn ?_ _|refine bDr ?_|refine bAl ?_ _));exact BK256.out⟩
     have n2_ : Aside0 (((w38.setCell ⟨gb266,0,none⟩ (.int .i64 t261)).setCell ⟨gb266,1,none⟩ (.int .i64 t264)).heap[gb266]? = some (.cells #[.int .i64 t261,.int .i64 t264] 30 (0,0))):=⟨by (with_reducible repeat (first|refine bDn ?_ _|refine bDr ?_|refine bAl ?_ _));refine blk_put (cs:=#[.int .i64 t261,.int .i64 0]) ?_ 1 _ rfl;(with_reducible repeat (first|refine bDn ?_ _|refine bDr ?_|refine bAl ?_ _));refine blk_put (cs:=#[.int .i64 0,.int .i64 0]) ?_ 0 _ rfl;(with_reducible repeat (first|refine bDn ?_ _|refine bDr ?_|refine bAl ?_ _));exact BK266.out⟩
     have n3_ : Aside0 (Below w.heap.size w ((w38.setCell ⟨gb266,0,none⟩ (.int .i64 t261)).setCell ⟨gb266,1,none⟩ (.int .i64 t264))):=⟨by repeat (first|(with_reducible first|exact HB.out|apply bwA|apply bwN|apply bw1|refine below_set ?_ GE256.out|refine below_set ?_ GE266.out)|exact HB.out)⟩
     (try clear HO259)
     (try clear BK256)
     (try clear BK266)
     (try clear HB)
     generalize ((w38.setCell ⟨gb266,0,none⟩ (.int .i64 t261)).setCell ⟨gb266,1,none⟩ (.int .i64 t264)) = w41 at n0_ n1_ n2_ n3_ ⊢
     have HO259:=n0_
     have BK256:=n1_
     have BK266:=n2_
     have HB:=n3_
     clear n0_ n1_ n2_ n3_
     have n0_:=aMk (Kd.R_drew HO259.out)
     have n1_:=aMk (bDr BK256.out)
     have n2_:=aMk (bDr BK266.out)
     have n3_:=aMk (bw1 HB.out)
     clear HO259
     clear BK256
     clear BK266
     clear HB
     have HO259:=n0_
     have BK256:=n1_
     have BK266:=n2_
     have HB:=n3_
     clear n0_ n1_ n2_ n3_
     refine start_ (n:=11) (S:=fun w' => w'.cell? ⟨gb266,0,none⟩ = some (.int .i64 t261) ∧ w'.cell? ⟨gb266,1,none⟩ = some (.int .i64 t264)) (ds:=[]) #[false,false,false,false,false,false,false,false,false,false,false] (by kernel_rfl) rfl rfl ⟨(bCe BK266.out 0).trans rfl,(bCe BK266.out 1).trans rfl⟩ (fun hHeld => ?_);refine with_tabW spec_l05Read.tab7 spec_l05Read.bits7 (fun HT_ HW_ => ?_)
     generalize w41.drew = w42 at HO259 BK256 BK266 HB hHeld ⊢
     refine pure_ (i:=1) (N:=some 34) (v:=?_) (a':=?_) #[false,true,false,false,false,false,false,false,false,false,false] rfl rfl (any_of HT_.out (by kernel_rfl)) (fun _ _ _ h => h) (Or.inl ⟨by rfl,?_⟩) ?_ ?_
     rotate_left
     ·intro w'
      go_simp
      with_reducible rfl
     rotate_left
     ·simp only [Act.put,List.setIfInBounds_toArray,List.set_cons_zero,List.set_cons_succ,i64_w,i32_w]
      rfl
     refine pure_ (i:=2) (N:=some 35) (v:=?_) (a':=?_) #[false,true,true,false,false,false,false,false,false,false,false] rfl rfl (any_of HT_.out (by kernel_rfl)) (fun _ _ _ h => h) (Or.inl ⟨by rfl,?_⟩) ?_ ?_
     rotate_left
     ·intro w'
      go_simp
      with_reducible rfl
     rotate_left
     ·simp only [Act.put,List.setIfInBounds_toArray,List.set_cons_zero,List.set_cons_succ,i64_w,i32_w]
      rfl
     refine pure_ (i:=3) (N:=some 36) (v:=undef) (a':=?_) #[false,true,true,true,false,false,false,false,false,false,false] rfl rfl (any_of HT_.out (by kernel_rfl)) (fun _ _ _ h => h) (Or.inr ⟨by rfl,rfl⟩) ?_ ?_
     rotate_left
     ·simp only [Act.put,List.setIfInBounds_toArray,List.set_cons_zero,List.set_cons_succ,i64_w,i32_w]
      rfl
     refine pure_ (i:=4) (N:=some 37) (v:=?_) (a':=?_) #[false,true,true,true,true,false,false,false,false,false,false] rfl rfl (any_of HT_.out (by kernel_rfl)) (fun _ _ _ h => h) (Or.inl ⟨by rfl,?_⟩) ?_ ?_
     rotate_left
     ·intro w'
      go_simp
      with_reducible rfl
     rotate_left
     ·simp only [Act.put,List.setIfInBounds_toArray,List.set_cons_zero,List.set_cons_succ,i64_w,i32_w]
      rfl
     refine pure_ (i:=5) (N:=some 38) (v:=?_) (a':=?_) #[false,true,true,true,true,true,false,false,false,false,false] rfl rfl (any_of HT_.out (by kernel_rfl)) (fun _ _ _ h => h) (Or.inl ⟨by rfl,?_⟩) ?_ ?_
     rotate_left
     ·intro w'
      go_simp
      with_reducible rfl
     rotate_left
     ·simp only [Act.put,List.setIfInBounds_toArray,List.set_cons_zero,List.set_cons_succ,i64_w,i32_w]
      rfl
     refine pure_ (i:=6) (N:=some 39) (v:=undef) (a':=?_) #[false,true,true,true,true,true,true,false,false,false,false] rfl rfl (any_of HT_.out (by kernel_rfl)) (fun _ _ _ h => h) (Or.inr ⟨by rfl,rfl⟩) ?_ ?_
     rotate_left
     ·simp only [Act.put,List.setIfInBounds_toArray,List.set_cons_zero,List.set_cons_succ,i64_w,i32_w]
      rfl
     refine pure_ (i:=7) (N:=some 40) (v:=undef) (a':=?_) #[false,true,true,true,true,true,true,true,false,false,false] rfl rfl (any_of HT_.out (by kernel_rfl)) (fun _ _ _ h => h) (Or.inr ⟨by rfl,rfl⟩) ?_ ?_
     rotate_left
     ·simp only [Act.put,List.setIfInBounds_toArray,List.set_cons_zero,List.set_cons_succ,i64_w,i32_w]
      rfl
     refine pure_ (i:=8) (N:=some 41) (v:=?_) (a':=?_) #[false,true,true,true,true,true,true,true,true,false,false] rfl rfl (any_of HT_.out (by kernel_rfl)) (fun _ _ _ h => h) (Or.inl ⟨by rfl,?_⟩) ?_ ?_
     rotate_left
     ·intro w'
      go_simp
      with_reducible rfl
     rotate_left
     ·simp only [Act.put,List.setIfInBounds_toArray,List.set_cons_zero,List.set_cons_succ,i64_w,i32_w]
      rfl
     refine take_ (i:=0) (N:=some 33) (v:=?_) (a':=?_) #[true,true,true,true,true,true,true,true,true,false,false] rfl rfl (take_ofW HT_.out HW_.out (by kernel_rfl)) (fun _ _ _ h => h) (Or.inl ⟨by rfl,?_⟩) hHeld ?_ ?_
     rotate_left
     ·rintro w' ⟨s0,s1⟩
      go_simp
      with_reducible rfl
     rotate_left
     ·simp only [Act.put,List.setIfInBounds_toArray,List.set_cons_zero,List.set_cons_succ,i64_w,i32_w]
      rfl
     refine one_ (i:=9) (N:=none) #[true,true,true,true,true,true,true,true,true,true,false] rfl rfl (one_of HT_.out (by kernel_rfl)) (by decide) (fun K hK => ?_)
     have hs43 : w42.cell? ⟨gb256,0,none⟩ = some (.int .i64 0):=(bCe BK256.out 0).trans rfl
     have hfs43:=bFr BK256.out 0
     have hns43_1:=NB266_256.out
     have hms43_1:=NB256_266.out
     have hs44 : w42.cell? ⟨gb256,1,none⟩ = some (.int .i64 0):=(bCe BK256.out 1).trans rfl
     have hfs44:=bFr BK256.out 1
     have hns44_1:=NB266_256.out
     have hms44_1:=NB256_266.out
     refine skip_ (w1:=?_) (by rfl) rfl ?_ ?_
     rotate_left
     ·go_simp
      rfl
     refine hK.out _ _ ⟨((cell_far (p:=⟨gb256,_,none⟩) NB266_256.out _).trans (((cell_far (p:=⟨gb256,_,none⟩) NB266_256.out _).trans (hHeld.1)))),((cell_far (p:=⟨gb256,_,none⟩) NB266_256.out _).trans (((cell_far (p:=⟨gb256,_,none⟩) NB266_256.out _).trans (hHeld.2))))⟩ (fun hHeld => ?_)
     clear hK K
     refine pure_ (i:=10) (N:=some 3) (v:=?_) (a':=?_) #[true,true,true,true,true,true,true,true,true,true,true] rfl rfl (any_of HT_.out (by kernel_rfl)) (fun _ _ _ h => h) (Or.inl ⟨by rfl,?_⟩) ?_ ?_
     rotate_left
     ·intro w'
      go_simp
      with_reducible rfl
     rotate_left
     ·simp only [Act.put,List.setIfInBounds_toArray,List.set_cons_zero,List.set_cons_succ,i64_w,i32_w]
      rfl
     refine done_ (done_of HT_.out (by kernel_rfl)) ?_
     try go_wp2
     refine bodyPost_ret (results_ct rfl _ _ gb256 30 #[.int .i64 t261,.int .i64 t264] (0,0) _ rfl (by (with_reducible repeat (first|refine bDn ?_ _|refine bDr ?_|refine bAl ?_ _));refine blk_put (cs:=#[.int .i64 t261,.int .i64 0]) ?_ 1 _ rfl;(with_reducible repeat (first|refine bDn ?_ _|refine bDr ?_|refine bAl ?_ _));refine blk_put (cs:=#[.int .i64 0,.int .i64 0]) ?_ 0 _ rfl;(with_reducible repeat (first|refine bDn ?_ _|refine bDr ?_|refine bAl ?_ _));exact BK256.out) Tryd.underlying30 rfl (by kernel_rfl)) rfl ?_
     exact ⟨by first | rfl|(simp [errW_none,errW_some] <;> rfl)|(simp [*,errW_none,errW_some] <;> rfl),by repeat (first|(with_reducible first|exact HB.out|apply bwA|apply bwN|apply bw1|refine below_set ?_ GE256.out|refine below_set ?_ GE266.out)|exact HB.out)⟩
   ·rw [if_neg c6] at H
    exact absurd H (by simp)
  ·rw [if_neg c4] at H
   exact absurd H (by simp)
 ·rw [if_neg c3] at H
  have c3b0 : ((t257.length : Int) == 2) = false:=beq_eq_false_iff_ne.mpr c3
  have c3b1 : ((t257.length : Int) != 2) = true:=bne_iff_ne.mpr c3
  simp only [Option.some.injEq,Prod.mk.injEq] at H
  obtain ⟨rfl,rfl,rfl⟩:=H
  go_enter Tryd.func41,Tryd.ntmps41
  go_wp2_with (first|((with_reducible refine gate_dst (N:=2) rfl ?_);refine box_event ?hg (N:=2) ?hd (cs:=#[.int .i64 0,.int .i64 0]) (t:=30) ?hr ?_;(case hd => rfl);(case hg => rfl);(case hr => first|(go_simp;done)|(go_simp;rfl));intro gb256 hg w45 hbox hb;have n0_:=aMk (below_step (by repeat first|exact HB.out|apply bwA|apply bwN|apply bw1) hb);have n1_:=aMk (hbox);have n2_:=aMk ((by rw [hg];exact (below_size (by repeat first|exact HB.out|apply bwA|apply bwN|apply bw1)) : w.heap.size ≤ gb256));have n3_:=aMk ((by rw [hg];exact (below_size (by repeat first|exact HB.out|apply bwA|apply bwN|apply bw1)) : w.heap.size ≤ gb256));clear HB;have HB:=n0_;have BK256:=n1_;have GW256:=n2_;have GE256:=n3_;clear n0_ n1_ n2_ n3_;clear hb hbox hg)|((with_reducible refine gate_callee (f:=59) rfl ?_);refine goesL_ (some 11) rfl rfl Tryd.func59 (by kernel_rfl) rfl #[.string a0,.int .u8 47] rfl (by (try simp only [List.map_toArray,List.map_cons,List.map_nil]);first | done | rfl|(simp only [List.length_drop,List.length_take];rfl)) ?_;(with_reducible refine (spec_l00Cut.calls k a0 47 t257 _ A2.out).mono ?_);rintro e w46 ⟨v258,rfl,ho0,hb⟩;refine ⟨_,rfl,?_⟩;have n0_:=aMk (Kd.R_lower ho0 (below_size (by repeat (first|(with_reducible first|exact HB.out|apply bwA|apply bwN|apply bw1|refine below_set ?_ GE256.out)|exact HB.out))));have n1_:=aMk (blk_below (g:=gb256) (o:=.cells #[.int .i64 0,.int .i64 0] 30 (0,0)) (by (with_reducible repeat (first|refine bDn ?_ _|refine bDr ?_|refine bAl ?_ _));exact BK256.out) hb);have n2_:=aMk (below_step (by repeat (first|(with_reducible first|exact HB.out|apply bwA|apply bwN|apply bw1|refine below_set ?_ GE256.out)|exact HB.out)) hb);clear BK256;clear HB;have HO259:=n0_;have BK256:=n1_;have HB:=n2_;clear n0_ n1_ n2_;(try clear hb);(try clear hb2);(try clear hk);(try clear hi);(try clear ho0);obtain ⟨Ao47,co47,eo47⟩:=Kd.R_slice HO259.out;subst eo47;have hcz48_0 : w46.cell? ⟨gb256,0,none⟩ = some (.int .i64 0):=(bCe BK256.out 0).trans rfl;have hcz48_1 : w46.cell? ⟨gb256,1,none⟩ = some (.int .i64 0):=(bCe BK256.out 1).trans rfl;have hfz48_0:=bFr BK256.out 0;have hfz48_1:=bFr BK256.out 1))
  refine bodyPost_ret (results_ct rfl _ _ gb256 30 #[.int .i64 0,.int .i64 0] (0,0) _ rfl (by (with_reducible repeat (first|refine bDn ?_ _|refine bDr ?_|refine bAl ?_ _));refine blk_put (cs:=#[.int .i64 0,.int .i64 0]) ?_ 1 _ rfl;(with_reducible repeat (first|refine bDn ?_ _|refine bDr ?_|refine bAl ?_ _));refine blk_put (cs:=#[.int .i64 0,.int .i64 0]) ?_ 0 _ rfl;(with_reducible repeat (first|refine bDn ?_ _|refine bDr ?_|refine bAl ?_ _));exact BK256.out) Tryd.underlying30 rfl (by kernel_rfl)) rfl ?_
  exact ⟨by first | rfl|(simp [errW_none,errW_some] <;> rfl)|(simp [*,errW_none,errW_some] <;> rfl),by repeat (first|(with_reducible first|exact HB.out|apply bwA|apply bwN|apply bw1|refine below_set ?_ GE256.out)|exact HB.out)⟩
end
end Go.Proofs.YtiemmhhjiplnlaaDoor.X
