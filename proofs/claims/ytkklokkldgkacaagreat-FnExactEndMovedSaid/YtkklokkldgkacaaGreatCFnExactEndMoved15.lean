/- Texts that the row of FnExactEndMoved stands on: functions of the program and of the reference, each as a Lean function with the same answers, and the plain lemmas. Conditions: none beside those that each theorem names. -/
import Derived.Test.YtkklokkldgkacaaGreatCFnExactEndMoved14
namespace Go.Proofs.YtkklokkldgkacaaGreat.X
open Go.RowKit Go.Proofs.YtkklokkldgkacaaGreatW.PrintWords Go.Proofs.YtkklokkldgkacaaGreatW.PrintLast Go.Proofs.YtkklokkldgkacaaGreatW.PrintMore
attribute [local go_sem] max2_int min2_int max_two min_two max_three min_three max_four min_four   -- for this text's walks alone
set_option linter.unusedVariables false
set_option linter.unusedSimpArgs false
section
-- NEEDS laws.eqConfig laws.markText
/-- The block of the roles: of each one the cell of its rules stays. -/
def RInv (w : World) (g s : Nat) (cur : Array Value) : Prop := ∃ c2 : Array Value, w.heap[g]? = some (Obj.cells c2 145 (0, 0)) ∧ c2.size = s ∧ ∀ i : Nat, c2[i * 5 + 1]? = cur[i * 5 + 1]?
theorem RInv.but {T : Nat → Prop} {w W : World} {g s : Nat} {cur : Array Value} (h : RInv w g s cur) (hb : ButS T w W) (hT : ¬ T g) : RInv W g s cur := by
  obtain ⟨c2, h1, h2, h3⟩ := h
  exact ⟨c2, blk_but h1 hb hT, h2, h3⟩
theorem raw_put {P : Program} {ops : Array Oper} {rest : List Oper} {o : Oper} {a : Act} {Q : Exit → Act → World → Prop} {S : Nat → Prop} {W : World} {g s : Nat} {cur : Array Value} (hN : o.dst = none) (hgd : o.guard = none) (t : TypeId) (pp x : Operand) (ho : o.op = .store t pp x) (HX : RInv W g s cur) (hg : S g) {o' : Nat} {u : Value} (haddr : a.eval pp = .pointer (some ⟨g, o', none⟩)) (hx : a.eval x = u) (hm : o' % 5 ≠ 1) (hu : u.cells.toList = [u]) (h1 : u.oneCell' = true) (ht : (P.info? t).map (·.size) = some 1) (hp : o' < s)
    (h : ∀ w1, RInv w1 g s cur → ButS S W w1 → wpList P ops Q rest a w1) : wpList P ops Q (o :: rest) a W := by
  obtain ⟨c2, hh, hs, h3⟩ := HX
  have hf : RInv (W.setCell ⟨g, o', none⟩ u) g s cur := ⟨_, blk_put hh o' _ rfl, by simpa using hs, fun i => by
    rw [Array.getElem?_setIfInBounds, if_neg (by omega)]; exact h3 i⟩
  have hb : ButS S W (W.setCell ⟨g, o', none⟩ u) := ButS.set hh hg o' u
  refine wpList_plain hgd fun K hK => ?_
  have hrun : (Instr.storeAt t (.pointer (some ⟨g, o', none⟩)) u).run P W = .ok () (W.setCells g o' [u]) := run_store_run t _ _ hh hu (by rw [ht]; rfl) (by rw [hs]; exact hp) (by intro q hq; rw [List.mem_singleton.1 hq]; exact h1)
  unfold Oper.wp execOp
  simp only [ho, haddr, hx, Sem.run_bind, Sem.run_pure, Result.andThen_ok, hrun]
  show K (a.put o.dst undef) _
  rw [hN]
  exact hK _ _ (h _ hf hb)
set_option maxHeartbeats 8000000 in
set_option maxRecDepth 100000 in
theorem markRole1 {S : Nat → Prop} (g n c : Nat) (cur : Array Value) (k : Int) (w : World) (hx : w.heap[g]? = some (Obj.cells cur 145 (0, 0))) (hg : S g) (hn : n * 5 ≤ cur.size) (hr : ∀ i : Nat, i < n → ∃ A m d, cur[i * 5 + 1]? = some (.slice A m d) ∧ RowA w S A m 183 6 ∧ m ≤ 1048576) (hz : n ≤ 1048576) (k0 : 0 ≤ k) (k1 : k ≤ 1099511627776) :
    Calls Tryz.prog 72 #[.slice (some ⟨g, 0, none⟩) n c, .int .i64 k] w fun e w' => ∃ k2 : Int, e = .returned (.int .i64 k2) ∧ k ≤ k2 ∧ k2 ≤ k + n * 6291460 ∧ ButS S w w' := by
  have HX := Aside0.mk (show RInv w g cur.size cur from ⟨cur, hx, rfl, fun _ => rfl⟩)
  have HG := Aside0.mk hg
  have HR := Aside0.mk hr
  have HY := Aside0.mk (show TypeAt w g 145 from ⟨cur, hx⟩)
  clear hg hr hx
  have HT := Aside0.mk (ButS.refl S w)
  go_enter Tryz.func72, Tryz.ntmps72
  go_wp2
  go_loopg [1, 5] n (fun gg v1 v5 w' => ∃ i x : Int, v1 = .int .i64 x ∧ v5 = .int .i64 i ∧ 0 ≤ i ∧ i ≤ n ∧ n - i ≤ gg ∧ k ≤ x ∧ x ≤ k + i * 6291460 ∧ Aside0 (RInv w' g cur.size cur) ∧ Aside0 (ButS S w w'))
  case atStart => exact ⟨0, k, rfl, rfl, by omega, by omega, by omega, by omega, by omega, HX, HT⟩
  case round =>
    clear HX HT
    obtain ⟨i, x, rfl, rfl, hi0, hi, hgg, hx0, hx1, HX, HT⟩ := hrel
    by_cases hlt : i < n
    · have hm : i.toNat * 5 + 5 ≤ cur.size := by omega
      obtain ⟨A, m, d, hc, ha, hmz⟩ := HR.out i.toNat (by omega)
      have HC := Aside0.mk hc
      have HA := Aside0.mk ha
      clear hc ha
      go_wp2_with (first
        | ((with_reducible refine gate_store rfl ?_); refine raw_put (S := S) rfl rfl _ _ _ rfl HX.out HG.out rfl rfl (by omega) rfl rfl (by kernel_rfl) (by omega) ?_; intro w3 hf hb; clear HX; have HX := Aside0.mk hf; have n_ := Aside0.mk (HT.out.trans hb); clear HT; have HT := n_; clear n_ hf hb; (try clear q1c hzg); have q1c := (show w3.cell? ⟨g, i.toNat * 5 + 1, none⟩ = some (.slice A m d) from by obtain ⟨c2, z1, z2, z3⟩ := HX.out; rw [blk_cell z1, z3]; exact HC.out))
        | (go_at_call 127; refine (markText1 _ _ (by omega) (by omega)).mono ?_; rintro e w2 ⟨rfl, hb⟩; have n_ := Aside0.mk (HX.out.but (ButS.of (S := fun _ => False) hb) (fun h => h)); clear HX; have HX := n_; clear n_; have n_ := Aside0.mk (HT.out.trans (ButS.of hb)); clear HT; have HT := n_; clear n_ hb)
        | (go_at_call 128; go_loud (refine (markRuleR (S := fun b => S b ∧ TypeAt w b 183) A m _ _ _ ((HA.out.typed).but HT.out) (by omega) (by omega) (by omega)).mono ?_; rintro e w2 ⟨rfl, _, hb⟩; have n_ := Aside0.mk (HX.out.but hb (fun h => absurd (h.2.ne HY.out) (by decide))); clear HX; have HX := n_; clear n_; have n_ := Aside0.mk (HT.out.trans (hb.mono (fun b h => h.1))); clear HT; have HT := n_; clear n_ hb; (try clear q1c))))
      go_roundg (n - (i + 1)).toNat
      case measure => omega
      case rel => exact ⟨i + 1, _, rfl, rfl, by omega, by omega, by omega, by omega, by omega, HX, HT⟩
    · obtain rfl : i = n := by omega
      go_wp2
      go_ret
      exact ⟨x, rfl, hx0, hx1, HT.out⟩
theorem R_rowA {β : Type} {d : Kd β} {e base n c : Nat} {ok : Nat → Prop} {w : World} {A : Option Addr} {xs : List β} (h : d.R e w base ok (.slice A n c) xs) : RowA w (fun b => base ≤ b ∧ b < w.heap.size ∧ ok b) A n e d.sz := by
  obtain ⟨h0, inner, ho, hr⟩ := h
  rcases ho.2 with ⟨hv, hn⟩ | ⟨g, cap, cur, hv, hb, hh, hnc, hcm, hcs, _⟩
  · injection hv with h1 h2 h3
    exact .inl h2
  · injection hv with h1 h2 h3
    subst h1 h3
    refine .inr ⟨g, cur, rfl, ⟨hb, blk_lt hh, h0 g (by simp [Value.ownBlock])⟩, hh, ?_⟩
    rw [hcs, h2]
    exact Nat.mul_le_mul_right _ hnc
theorem RowA.mono {S T : Nat → Prop} {w : World} {A : Option Addr} {n e sz : Nat} (h : RowA w S A n e sz) (hst : ∀ b, S b → T b) : RowA w T A n e sz := by
  rcases h with h | ⟨g, cur, h1, h2, h3, h4⟩
  · exact .inl h
  · exact .inr ⟨g, cur, h1, hst g h2, h3, h4⟩
def RoleRow (w : World) (S : Nat → Prop) (A : Option Addr) (n : Nat) : Prop := n = 0 ∨ ∃ (g : Nat) (cur : Array Value), A = some ⟨g, 0, none⟩ ∧ S g ∧ w.heap[g]? = some (Obj.cells cur 145 (0, 0)) ∧ n * 5 ≤ cur.size ∧ ∀ i : Nat, i < n → ∃ A m d, cur[i * 5 + 1]? = some (.slice A m d) ∧ RowA w S A m 183 6 ∧ m ≤ 1048576
theorem RoleRow.but {S T : Nat → Prop} {w W : World} {A : Option Addr} {n : Nat} (h : RoleRow w S A n) (hb : ButS T w W) (hT : ∀ b, T b → ¬ TypeAt w b 145) : RoleRow W S A n := by
  rcases h with h | ⟨g, cur, h1, h2, h3, h4, h5⟩
  · exact .inl h
  · refine .inr ⟨g, cur, h1, h2, blk_but h3 hb (fun h => hT g h ⟨cur, h3⟩), h4, fun i hi => ?_⟩
    obtain ⟨A, m, d, q1, q2, q3⟩ := h5 i hi
    exact ⟨A, m, d, q1, q2.but hb, q3⟩
theorem R_roleRow {S : Nat → Prop} {base n c : Nat} {ok : Nat → Prop} {w : World} {A : Option Addr} {xs : List S145} (h : Kd.R k145 145 w base ok (.slice A n c) xs) (y : ∀ r ∈ xs, r.f1.length ≤ 1048576) (hS : ∀ b, ok b → S b) : RoleRow w S A n := by
  rcases R_rowA h with h0 | ⟨g, cur, rfl, hg, hc, hn⟩
  · exact .inl h0
  · refine .inr ⟨g, cur, rfl, hS g hg.2.2, hc, hn, fun i hi => ?_⟩
    have hx : n = xs.length := (Kd.R_reads' h).1
    obtain ⟨cs, h1, h2, h3, _⟩ := Kd.R_elem h z145 (i : Int) (by omega) (by omega)
    obtain ⟨v1, rfl, hv⟩ := k145_openM h2
    obtain ⟨A1, c1, rfl⟩ := Kd.R_slice hv
    have h4 := h3 1 _ rfl
    rw [blk_cell hc, Int.toNat_natCast] at h4
    refine ⟨A1, _, c1, h4, (R_rowA hv).mono (fun b hb => hS b hb.2.2.1), y _ ?_⟩
    rw [List.getD_eq_getElem?_getD, List.getElem?_eq_getElem (show i < xs.length by omega)]
    exact List.getElem_mem _
set_option maxHeartbeats 8000000 in
set_option maxRecDepth 100000 in
theorem markRole0 (A : Option Addr) (c : Nat) (k : Int) (w : World) :
    Calls Tryz.prog 72 #[.slice A 0 c, .int .i64 k] w fun e w' => e = .returned (.int .i64 k) ∧ Below w.heap.size w w' := by
  have HB := Aside0.mk (Below.refl w.heap.size w)
  go_enter Tryz.func72, Tryz.ntmps72
  go_wp2
  go_loopg [1, 5] 0 (fun gg v1 v5 w' => v1 = .int .i64 k ∧ v5 = .int .i64 0 ∧ Aside0 (Below w.heap.size w w'))
  case atStart => exact ⟨rfl, rfl, HB⟩
  case round =>
    clear HB
    obtain ⟨rfl, rfl, HB⟩ := hrel
    go_wp2
    go_ret
    exact ⟨rfl, HB.out⟩
theorem markRoleR {S : Nat → Prop} (A : Option Addr) (n c : Nat) (k : Int) (w : World) (h : RoleRow w S A n) (hz : n ≤ 1048576) (k0 : 0 ≤ k) (k1 : k ≤ 1099511627776) :
    Calls Tryz.prog 72 #[.slice A n c, .int .i64 k] w fun e w' => ∃ k2 : Int, e = .returned (.int .i64 k2) ∧ k ≤ k2 ∧ k2 ≤ k + n * 6291460 ∧ ButS S w w' := by
  rcases h with rfl | ⟨g, cur, rfl, hg, hc, hn, hr⟩
  · refine (markRole0 A c k w).mono ?_
    rintro e w' ⟨rfl, hb⟩
    exact ⟨k, rfl, by omega, by omega, ButS.of hb⟩
  · exact markRole1 g n c cur k w hc hg hn hr hz k0 k1
set_option maxHeartbeats 8000000 in
set_option maxRecDepth 100000 in
theorem markC1 {S : Nat → Prop} (ip b gate : Int) (gm wm : ByteArray) (res : Int) (A6 A7 : Option Addr) (n6 n7 c6 c7 : Nat) (k : Int) (w : World) (h6 : RowA w S A6 n6 140 4) (h7 : RoleRow w S A7 n7) (hS : ∀ b, S b → b < w.heap.size) (z6 : n6 ≤ 1048576) (z7 : n7 ≤ 1048576) (k0 : 0 ≤ k) (k1 : k ≤ 1048576) :
    Calls Tryz.prog 17 #[.agg #[.int .i64 ip, .int .i64 b, .int .i64 gate, .string gm, .string wm, .int .i64 res, .slice A6 n6 c6, .slice A7 n7 c7], .int .i64 k] w fun e w' => ∃ k2 : Int, e = .returned (.int .i64 k2) ∧ k ≤ k2 ∧ k2 ≤ 70368744177664 ∧ ButS S w w' := by
  have hu := Tryz.underlying41
  have HR6 := Aside0.mk h6.typed
  have HR7 := Aside0.mk h7
  have HS := Aside0.mk hS
  clear h6 h7 hS
  have HT := Aside0.mk (ButS.refl S w)
  go_enter Tryz.func17, Tryz.ntmps17
  go_wp2_with (first
    | (go_at_call 71; go_loud (refine (markPlaceR (S := fun b => S b ∧ TypeAt w b 140) A6 n6 _ _ _ (HR6.out.but (ButS.of (S := fun _ => False) (below_alloc (Below.refl _ _) _))) (by omega) (by omega) (by omega)).mono ?_; rintro e w2 ⟨rfl, _, hb⟩; have HX := Aside0.mk (blk_but (g := w.heap.size) (o := (.cells #[.int .i64 ip, .int .i64 b, .int .i64 gate, .string gm, .string wm, .int .i64 res, .slice A6 n6 c6, .slice A7 n7 c7] 41 (0, 0))) (blk_new _ _) hb (fun h => Nat.lt_irrefl _ (HS.out _ h.1))); have hr7 := (HR7.out.but (ButS.of (S := fun _ => False) (below_alloc (Below.refl _ _) _)) (fun _ h => h.elim)).but hb (fun b h1 h2 => absurd ((h1.2.but (ButS.of (S := fun _ => False) (below_alloc (Below.refl _ _) _))).ne h2) (by decide)); clear HR7; have HR7 := Aside0.mk hr7; clear hr7; have n_ := Aside0.mk ((HT.out.trans (ButS.of (below_alloc (Below.refl _ _) _))).trans (hb.mono (fun b h => h.1))); clear HT; have HT := n_; clear n_ hb; have cx := blk_cell HX.out; have hzx := blk_lt HX.out))
    | (go_at_call 72; go_loud (refine (markRoleR (S := S) A7 n7 _ _ _ HR7.out z7 (by omega) (by omega)).mono ?_; rintro e w3 ⟨k2, rfl, hk0, hk1, hb⟩; have n_ := Aside0.mk (HT.out.trans hb); clear HT; have HT := n_; clear n_ hb)))
  go_ret
  exact ⟨k2, rfl, by omega, by omega, HT.out⟩
end
section
-- NEEDS laws.eqConfig spec.l08Own
structure GV where
  us : List S92
  ss : List S76
  fs : List S81
  rs : List S83
  nx : Int
def GV.none : GV := ⟨[], [], [], [], 0⟩
/-- What EndSession answers. -/
def EndOut (P : Prop) (q : GV) (id now cause : Int) (r : GV) (code : Int) : Prop :=
  (AskP P now code ∧ code ≠ 0 ∧ r = GV.none) ∨ (AskP P now 0 ∧ ¬ (1 ≤ cause ∧ cause ≤ 6) ∧ r = GV.none ∧ code = 4) ∨ (AskP P now 0 ∧ (1 ≤ cause ∧ cause ≤ 6) ∧ (∀ x ∈ q.ss, ¬ HasId id x) ∧ r = q ∧ code = 5) ∨
  (AskP P now 0 ∧ (1 ≤ cause ∧ cause ≤ 6) ∧ ∃ k : Int, 0 ≤ k ∧ k < q.ss.length ∧ HasId id (q.ss.getD k.toNat z76) ∧ (∀ j : Int, 0 ≤ j → j < k → ¬ HasId id (q.ss.getD j.toNat z76)) ∧ r = ⟨q.us, q.ss.eraseIdx k.toNat, q.fs, endRS q.rs (rd_T76 q.ss k) now cause, q.nx⟩ ∧ code = 0)
theorem EndOut.same {P : Prop} {q r r2 : GV} {id now cause c c2 : Int} (h : EndOut P q id now cause r c) (k : EndOut P q id now cause r2 c2) : r = r2 ∧ c = c2 := by
  rcases h with ⟨a1, a2, rfl⟩ | ⟨a1, a2, rfl, rfl⟩ | ⟨a1, a2, a3, rfl, rfl⟩ | ⟨a1, a2, j, a3, a4, a5, a6, rfl, rfl⟩ <;> rcases k with ⟨b1, b2, rfl⟩ | ⟨b1, b2, rfl, rfl⟩ | ⟨b1, b2, b3, rfl, rfl⟩ | ⟨b1, b2, i, b3, b4, b5, b6, rfl, rfl⟩
  all_goals first
    | exact ⟨rfl, a1.same b1⟩
    | exact absurd (a1.same b1) a2
    | exact absurd (b1.same a1) b2
    | exact absurd b2 a2
    | exact absurd a2 b2
    | exact ⟨rfl, rfl⟩
    | exact absurd b5 (a3 _ (rdmem b3 b4))
    | exact absurd a5 (b3 _ (rdmem a3 a4))
    | (obtain rfl : j = i := by
        rcases Int.lt_trichotomy j i with h | h | h
        · exact absurd a5 (b6 j a3 h)
        · exact h
        · exact absurd b5 (a6 i b3 h)
       exact ⟨rfl, rfl⟩)
theorem own_f (us : List S92) (ss : List S76) (fs : List S81) (rs : List S83) (nx : Int) (y0 : us.length ≤ 1048577) (y1 : ss.length ≤ 1048577) (y2 : fs.length ≤ 1048577) (y3 : rs.length ≤ 1048577) : spec_l08Own.f us ss fs rs nx = some (us, ss, fs, rs, nx) := by
  simp only [spec_l08Own.f, Option.bind_some, List.length_nil, Nat.zero_add, List.nil_append]
  repeat (first | rw [if_pos (by omega)] | rfl | simp only [Option.bind_some, List.length_nil, Nat.zero_add, List.nil_append])
end
section
-- NEEDS laws.eqConfig laws.szConfig laws.toConfig laws.markText
/-- The blocks from lo to hi. -/
def Ivl (lo hi : Nat) : Nat → Prop := fun b => lo ≤ b ∧ b < hi
theorem ivl0 {w W : World} (hb : Below w.heap.size w W) : ButS (Ivl 0 0) w W := ButS.of hb
theorem blk_I {w W : World} {g lo hi : Nat} {o : Obj} (h : w.heap[g]? = some o) (hb : ButS (Ivl lo hi) w W) (c : g < lo ∨ hi ≤ g) : W.heap[g]? = some o := blk_but h hb (fun hs => by have h1 := hs.1; have h2 := hs.2; omega)
theorem Below_I {v w W : World} {lo hi : Nat} (h : Below v.heap.size v w) (hb : ButS (Ivl lo hi) w W) (c : v.heap.size ≤ lo ∨ hi ≤ lo) : Below v.heap.size v W :=
  ⟨hb.os.trans h.os, hb.tape.trans h.tape, hb.output.trans h.output, Nat.le_trans h.size hb.size, fun b hl => (hb.block b (Nat.lt_of_lt_of_le hl h.size) (fun hs => by have h1 := hs.1; have h2 := hs.2; omega)).trans (h.block b hl)⟩
theorem R_I {α : Type} {d : Kd α} {e : Nat} {w W : World} {a b lo hi : Nat} {v : Value} {xs : List α} (h : d.R e w a (fun k => k < b) v xs) (hb : ButS (Ivl lo hi) w W) (c : b ≤ lo ∨ hi ≤ a ∨ hi ≤ lo) : d.R e W a (fun k => k < b) v xs :=
  Kd.R_mono (Kd.R_move (Kd.R_bound h) (fun k hk => hb.block k hk.2.2.1 (fun hs => by have h1 := hs.1; have h2 := hs.2; have h3 := hk.1; have h4 := hk.2.1; omega))) (fun k hk => hk.1)
theorem R_in {α : Type} {d : Kd α} {e : Nat} {w : World} {a a2 b : Nat} {v : Value} {xs : List α} (h : d.R e w a (fun _ => True) v xs) (ha : a2 ≤ a) (hb : w.heap.size ≤ b) : d.R e w a2 (fun k => k < b) v xs :=
  Kd.R_lower (Kd.R_mono (Kd.R_bound h) (fun k hk => Nat.lt_of_lt_of_le hk.2.2.1 hb)) ha
theorem alloc_sz (w : World) (o : Obj) : (w.alloc o).heap.size = w.heap.size + 1 := Array.size_push ..
/-- The rows of guests, in blocks from a to b. -/
def RR4 (W : World) (a b : Nat) (v0 v1 v2 v3 : Value) (q : GV) : Prop := Kd.R k92 92 W a (fun k => k < b) v0 q.us ∧ Kd.R k76 76 W a (fun k => k < b) v1 q.ss ∧ Kd.R k81 81 W a (fun k => k < b) v2 q.fs ∧ Kd.R k83 83 W a (fun k => k < b) v3 q.rs
theorem RR4.I {w W : World} {a b lo hi : Nat} {v0 v1 v2 v3 : Value} {q : GV} (h : RR4 w a b v0 v1 v2 v3 q) (hb : ButS (Ivl lo hi) w W) (c : b ≤ lo ∨ hi ≤ a ∨ hi ≤ lo) : RR4 W a b v0 v1 v2 v3 q := ⟨R_I h.1 hb c, R_I h.2.1 hb c, R_I h.2.2.1 hb c, R_I h.2.2.2 hb c⟩
def RR2 (W : World) (a b : Nat) (v6 v7 : Value) (g : List S140) (l : List S145) : Prop := Kd.R k140 140 W a (fun k => k < b) v6 g ∧ Kd.R k145 145 W a (fun k => k < b) v7 l
theorem RR2.I {w W : World} {a b lo hi : Nat} {v6 v7 : Value} {g : List S140} {l : List S145} (h : RR2 w a b v6 v7 g l) (hb : ButS (Ivl lo hi) w W) (c : b ≤ lo ∨ hi ≤ a ∨ hi ≤ lo) : RR2 W a b v6 v7 g l := ⟨R_I h.1 hb c, R_I h.2 hb c⟩
theorem toConfigN (ip b gate : Int) (gm wm : ByteArray) (res : Int) (A6 : Option Addr) (c6 : Nat) (g : List S151) (A7 : Option Addr) (c7 : Nat) (l : List S129) (w : World) (a : Nat) (ha : a ≤ w.heap.size) (h6 : Kd.C k151 w A6 g.length g) (z6 : g.length ≤ 1048576) (h7 : Kd.C k129 w A7 l.length l) (z7 : l.length ≤ 1048576) (y7 : ∀ r ∈ l, r.f1.length ≤ 1048576) :
    Calls Tryz.prog 10 #[.agg #[.int .i64 ip, .int .i64 b, .int .i64 gate, .string gm, .string wm, .int .i64 res, .slice A6 g.length c6, .slice A7 l.length c7]] w fun e w' => ∃ X6 x6 X7 x7, e = .returned (.agg #[.int .i64 ip, .int .i64 b, .int .i64 gate, .string gm, .string wm, .int .i64 res, .slice X6 g.length x6, .slice X7 l.length x7]) ∧ RR2 w' a w'.heap.size (.slice X6 g.length x6) (.slice X7 l.length x7) (g.map cvPlace) (l.map cvRole) ∧ Below w.heap.size w w' := by
  refine (toConfig1 ip b gate gm wm res A6 c6 g A7 c7 l w h6 z6 h7 z7 y7).mono ?_
  rintro e w2 ⟨X6, x6, X7, x7, rfl, o6, o7, hb⟩
  exact ⟨X6, x6, X7, x7, rfl, ⟨R_in o6 ha (Nat.le_refl _), R_in o7 ha (Nat.le_refl _)⟩, hb⟩
theorem toGuestsN (B0 B1 B2 B3 : Option Addr) (d0 d1 d2 d3 : Nat) (us : List S131) (ss : List S133) (fs : List S135) (rs : List S157) (nx : Int) (w : World) (a : Nat) (ha : a ≤ w.heap.size) (h0 : Kd.C k131 w B0 us.length us) (z0 : us.length ≤ 1048576) (h1 : Kd.C k133 w B1 ss.length ss) (z1 : ss.length ≤ 1048576) (h2 : Kd.C k135 w B2 fs.length fs) (z2 : fs.length ≤ 1048576) (h3 : Kd.C k157 w B3 rs.length rs) (z3 : rs.length ≤ 1048576) :
    Calls Tryz.prog 11 #[.agg #[.slice B0 us.length d0, .slice B1 ss.length d1, .slice B2 fs.length d2, .slice B3 rs.length d3, .int .i64 nx]] w fun e w' => ∃ X0 x0 X1 x1 X2 x2 X3 x3, e = .returned (.agg #[.slice X0 us.length x0, .slice X1 ss.length x1, .slice X2 fs.length x2, .slice X3 rs.length x3, .int .i64 nx]) ∧ RR4 w' a w'.heap.size (.slice X0 us.length x0) (.slice X1 ss.length x1) (.slice X2 fs.length x2) (.slice X3 rs.length x3) ⟨us.map cvUser, ss.map cvSession, fs.map cvFail, rs.map cvRecord, nx⟩ ∧ Below w.heap.size w w' := by
  refine (toGuests1 B0 d0 us B1 d1 ss B2 d2 fs B3 d3 rs nx w h0 z0 h1 z1 h2 z2 h3 z3).mono ?_
  rintro e w2 ⟨X0, x0, X1, x1, X2, x2, X3, x3, rfl, o0, o1, o2, o3, hb⟩
  exact ⟨X0, x0, X1, x1, X2, x2, X3, x3, rfl, ⟨R_in o0 ha (Nat.le_refl _), R_in o1 ha (Nat.le_refl _), R_in o2 ha (Nat.le_refl _), R_in o3 ha (Nat.le_refl _)⟩, hb⟩
def GV.Len (q : GV) : Prop := q.us.length ≤ 1048576 ∧ q.ss.length ≤ 1048576 ∧ q.fs.length ≤ 1048576 ∧ q.rs.length ≤ 1048576
theorem eqGuestsR (q : GV) (B0 B1 B2 B3 V0 V1 V2 V3 : Option Addr) (d0 d1 d2 d3 v0 v1 v2 v3 : Nat) (w : World) {a b a2 b2 : Nat} (h : RR4 w a b (.slice B0 q.us.length d0) (.slice B1 q.ss.length d1) (.slice B2 q.fs.length d2) (.slice B3 q.rs.length d3) q) (h2 : RR4 w a2 b2 (.slice V0 q.us.length v0) (.slice V1 q.ss.length v1) (.slice V2 q.fs.length v2) (.slice V3 q.rs.length v3) q) (hz : q.Len) :
    Calls Tryz.prog 14 #[.agg #[.slice B0 q.us.length d0, .slice B1 q.ss.length d1, .slice B2 q.fs.length d2, .slice B3 q.rs.length d3, .int .i64 q.nx], .agg #[.slice V0 q.us.length v0, .slice V1 q.ss.length v1, .slice V2 q.fs.length v2, .slice V3 q.rs.length v3, .int .i64 q.nx]] w fun e w' => e = .returned (.bool true) ∧ Below w.heap.size w w' :=
  eqGuestsN B0 B1 B2 B3 V0 V1 V2 V3 d0 d1 d2 d3 v0 v1 v2 v3 q.us q.ss q.fs q.rs q.nx w _ _ _ _ rfl rfl rfl rfl (R_toC h.1).2 (R_toC h2.1).2 (Nat.le_trans hz.1 (by decide)) (R_toC h.2.1).2 (R_toC h2.2.1).2 (Nat.le_trans hz.2.1 (by decide)) (R_toC h.2.2.1).2 (R_toC h2.2.2.1).2 (Nat.le_trans hz.2.2.1 (by decide)) (R_toC h.2.2.2).2 (R_toC h2.2.2.2).2 (Nat.le_trans hz.2.2.2 (by decide))
theorem eqGuestsM (us : List S92) (ss : List S76) (fs : List S81) (rs : List S83) (nx : Int) (n0 n1 n2 n3 : Nat) (B0 B1 B2 B3 V0 V1 V2 V3 : Option Addr) (d0 d1 d2 d3 v0 v1 v2 v3 : Nat) (w : World) {a b a2 b2 : Nat} (h : RR4 w a b (.slice B0 n0 d0) (.slice B1 n1 d1) (.slice B2 n2 d2) (.slice B3 n3 d3) ⟨us, ss, fs, rs, nx⟩) (h2 : RR4 w a2 b2 (.slice V0 n0 v0) (.slice V1 n1 v1) (.slice V2 n2 v2) (.slice V3 n3 v3) ⟨us, ss, fs, rs, nx⟩) (hz : (⟨us, ss, fs, rs, nx⟩ : GV).Len) :
    Calls Tryz.prog 14 #[.agg #[.slice B0 n0 d0, .slice B1 n1 d1, .slice B2 n2 d2, .slice B3 n3 d3, .int .i64 nx], .agg #[.slice V0 n0 v0, .slice V1 n1 v1, .slice V2 n2 v2, .slice V3 n3 v3, .int .i64 nx]] w fun e w' => e = .returned (.bool true) ∧ Below w.heap.size w w' := by
  obtain rfl : n0 = us.length := (Kd.R_reads' h.1).1
  obtain rfl : n1 = ss.length := (Kd.R_reads' h.2.1).1
  obtain rfl : n2 = fs.length := (Kd.R_reads' h.2.2.1).1
  obtain rfl : n3 = rs.length := (Kd.R_reads' h.2.2.2).1
  exact eqGuestsR ⟨us, ss, fs, rs, nx⟩ B0 B1 B2 B3 V0 V1 V2 V3 d0 d1 d2 d3 v0 v1 v2 v3 w h h2 hz
theorem eqConfigM (ip b gate : Int) (gm wm : ByteArray) (res : Int) (g : List S140) (l : List S145) (n6 n7 : Nat) (A6 V6 A7 V7 : Option Addr) (c6 v6 c7 v7 : Nat) (w : World) {a b1 a2 b2 : Nat} (h : RR2 w a b1 (.slice A6 n6 c6) (.slice A7 n7 c7) g l) (h2 : RR2 w a2 b2 (.slice V6 n6 v6) (.slice V7 n7 v7) g l) (z6 : g.length ≤ 1048576) (z7 : l.length ≤ 1048576) (y7 : ∀ r ∈ l, r.f1.length ≤ 1048576) :
    Calls Tryz.prog 13 #[.agg #[.int .i64 ip, .int .i64 b, .int .i64 gate, .string gm, .string wm, .int .i64 res, .slice A6 n6 c6, .slice A7 n7 c7], .agg #[.int .i64 ip, .int .i64 b, .int .i64 gate, .string gm, .string wm, .int .i64 res, .slice V6 n6 v6, .slice V7 n7 v7]] w fun e w' => e = .returned (.bool true) ∧ Below w.heap.size w w' := by
  obtain rfl : n6 = g.length := (Kd.R_reads' h.1).1
  obtain rfl : n7 = l.length := (Kd.R_reads' h.2).1
  exact eqConfigN ip b gate gm wm res A6 V6 c6 v6 g A7 V7 c7 v7 l w _ _ rfl rfl (R_toC h.1).2 (R_toC h2.1).2 (Nat.le_trans z6 (by decide)) (R_toC h.2).2 (R_toC h2.2).2 (Nat.le_trans z7 (by decide)) (fun r hr => Nat.le_trans (y7 r hr) (by decide))
theorem markCR (ip b gate : Int) (gm wm : ByteArray) (res : Int) (g : List S140) (l : List S145) (n6 n7 : Nat) (A6 A7 : Option Addr) (c6 c7 : Nat) (k : Int) (w : World) {lo hi : Nat} (h : RR2 w lo hi (.slice A6 n6 c6) (.slice A7 n7 c7) g l) (hh : hi ≤ w.heap.size) (z6 : g.length ≤ 1048576) (z7 : l.length ≤ 1048576) (y7 : ∀ r ∈ l, r.f1.length ≤ 1048576) (k0 : 0 ≤ k) (k1 : k ≤ 1048576) :
    Calls Tryz.prog 17 #[.agg #[.int .i64 ip, .int .i64 b, .int .i64 gate, .string gm, .string wm, .int .i64 res, .slice A6 n6 c6, .slice A7 n7 c7], .int .i64 k] w fun e w' => ∃ k2 : Int, e = .returned (.int .i64 k2) ∧ 0 ≤ k2 ∧ k2 ≤ 70368744177664 ∧ ButS (Ivl lo hi) w w' := by
  obtain rfl : n6 = g.length := (Kd.R_reads' h.1).1
  obtain rfl : n7 = l.length := (Kd.R_reads' h.2).1
  refine (markC1 (S := Ivl lo hi) ip b gate gm wm res A6 A7 g.length l.length c6 c7 k w ((R_rowA h.1).mono (fun b hb => ⟨hb.1, hb.2.2⟩)) (R_roleRow (Kd.R_mono (Kd.R_bound h.2) (fun k hk => (⟨hk.2.1, hk.1⟩ : Ivl lo hi k))) y7 (fun _ h => h)) (fun b hb => Nat.lt_of_lt_of_le hb.2 hh) z6 z7 k0 k1).mono ?_
  rintro e w2 ⟨k2, rfl, h1, h2, hb⟩
  exact ⟨k2, rfl, by omega, h2, hb⟩
def MarkedG (w : World) (B0 B1 B2 B3 : Option Addr) (n0 n1 n2 n3 : Nat) (m : Int) : Prop := RowF w B0 n0 92 6 (mvUser 1) ∧ RowF w B1 n1 76 10 (mvSession (1 + n0 * 6)) ∧ RowF w B2 n2 81 3 (mvFail (1 + n0 * 6 + n1 * 10)) ∧ RowF w B3 n3 83 5 (mvRecord (1 + n0 * 6 + n1 * 10 + n2 * 3)) ∧ m = 1 + n0 * 6 + n1 * 10 + n2 * 3 + n3 * 5
theorem MarkedG.I {w W : World} {B0 B1 B2 B3 : Option Addr} {n0 n1 n2 n3 : Nat} {m : Int} (h : MarkedG w B0 B1 B2 B3 n0 n1 n2 n3 m) (hb : Below w.heap.size w W) : MarkedG W B0 B1 B2 B3 n0 n1 n2 n3 m := ⟨h.1.below hb, h.2.1.below hb, h.2.2.1.below hb, h.2.2.2.1.below hb, h.2.2.2.2⟩
theorem markGR (q : GV) (n0 n1 n2 n3 : Nat) (B0 B1 B2 B3 : Option Addr) (d0 d1 d2 d3 : Nat) (nx k : Int) (w : World) {lo hi : Nat} (h : RR4 w lo hi (.slice B0 n0 d0) (.slice B1 n1 d1) (.slice B2 n2 d2) (.slice B3 n3 d3) q) (hh : hi ≤ w.heap.size) (hz : q.Len) (k0 : 0 ≤ k) (k1 : k ≤ 70368744177664) :
    Calls Tryz.prog 18 #[.agg #[.slice B0 n0 d0, .slice B1 n1 d1, .slice B2 n2 d2, .slice B3 n3 d3, .int .i64 nx], .int .i64 k] w fun e w' => ∃ k2 : Int, e = .returned (.int .i64 k2) ∧ decide (k2 < 0) = false ∧ ButS (Ivl lo hi) w w' := by
  obtain rfl : n0 = q.us.length := (Kd.R_reads' h.1).1
  obtain rfl : n1 = q.ss.length := (Kd.R_reads' h.2.1).1
  obtain rfl : n2 = q.fs.length := (Kd.R_reads' h.2.2.1).1
  obtain rfl : n3 = q.rs.length := (Kd.R_reads' h.2.2.2).1
  refine (markG1 (S := Ivl lo hi) B0 B1 B2 B3 _ _ _ _ d0 d1 d2 d3 nx k w ((R_rowA h.1).mono (fun b hb => ⟨hb.1, hb.2.2⟩)) ((R_rowA h.2.1).mono (fun b hb => ⟨hb.1, hb.2.2⟩)) ((R_rowA h.2.2.1).mono (fun b hb => ⟨hb.1, hb.2.2⟩)) ((R_rowA h.2.2.2).mono (fun b hb => ⟨hb.1, hb.2.2⟩)) (fun b hb => Nat.lt_of_lt_of_le hb.2 hh) hz.1 hz.2.1 hz.2.2.1 hz.2.2.2 k0 (by omega)).mono ?_
  rintro e w2 ⟨rfl, _, _, _, _, hb⟩
  exact ⟨_, rfl, by rw [decide_eq_false_iff_not]; omega, hb⟩
theorem markGM (q : GV) (n0 n1 n2 n3 : Nat) (B0 B1 B2 B3 : Option Addr) (d0 d1 d2 d3 : Nat) (nx : Int) (w : World) {lo hi : Nat} (h : RR4 w lo hi (.slice B0 n0 d0) (.slice B1 n1 d1) (.slice B2 n2 d2) (.slice B3 n3 d3) q) (hh : hi ≤ w.heap.size) (hz : q.Len) :
    Calls Tryz.prog 18 #[.agg #[.slice B0 n0 d0, .slice B1 n1 d1, .slice B2 n2 d2, .slice B3 n3 d3, .int .i64 nx], .int .i64 1] w fun e w' => ∃ m : Int, e = .returned (.int .i64 m) ∧ MarkedG w' B0 B1 B2 B3 n0 n1 n2 n3 m ∧ decide (m < 0) = false ∧ (0 ≤ m ∧ m ≤ 70368744177664) ∧ ButS (Ivl lo hi) w w' := by
  obtain rfl : n0 = q.us.length := (Kd.R_reads' h.1).1
  obtain rfl : n1 = q.ss.length := (Kd.R_reads' h.2.1).1
  obtain rfl : n2 = q.fs.length := (Kd.R_reads' h.2.2.1).1
  obtain rfl : n3 = q.rs.length := (Kd.R_reads' h.2.2.2).1
  refine (markG1 (S := Ivl lo hi) B0 B1 B2 B3 _ _ _ _ d0 d1 d2 d3 nx 1 w ((R_rowA h.1).mono (fun b hb => ⟨hb.1, hb.2.2⟩)) ((R_rowA h.2.1).mono (fun b hb => ⟨hb.1, hb.2.2⟩)) ((R_rowA h.2.2.1).mono (fun b hb => ⟨hb.1, hb.2.2⟩)) ((R_rowA h.2.2.2).mono (fun b hb => ⟨hb.1, hb.2.2⟩)) (fun b hb => Nat.lt_of_lt_of_le hb.2 hh) hz.1 hz.2.1 hz.2.2.1 hz.2.2.2 (by decide) (by decide)).mono ?_
  rintro e w2 ⟨rfl, f0, f1, f2, f3, hb⟩
  have z := hz
  unfold GV.Len at z
  exact ⟨_, rfl, ⟨f0, f1, f2, f3, rfl⟩, by rw [decide_eq_false_iff_not]; omega, by omega, hb⟩
theorem heldGM (n0 n1 n2 n3 : Nat) (B0 B1 B2 B3 : Option Addr) (d0 d1 d2 d3 : Nat) (nx m : Int) (w : World) (h : MarkedG w B0 B1 B2 B3 n0 n1 n2 n3 m) (z0 : n0 ≤ 1048576) (z1 : n1 ≤ 1048576) (z2 : n2 ≤ 1048576) (z3 : n3 ≤ 1048576) :
    Calls Tryz.prog 19 #[.agg #[.slice B0 n0 d0, .slice B1 n1 d1, .slice B2 n2 d2, .slice B3 n3 d3, .int .i64 nx], .int .i64 1] w fun e w' => e = .returned (.int .i64 m) ∧ Below w.heap.size w w' := by
  obtain ⟨f0, f1, f2, f3, rfl⟩ := h
  exact heldG1 B0 B1 B2 B3 n0 n1 n2 n3 d0 d1 d2 d3 nx 1 w f0 f1 f2 f3 z0 z1 z2 z3 (by decide) (by decide)
theorem setCells_one (w : World) (g p : Nat) (u : Value) (r : List Value) : w.setCells g p (u :: r) = (w.setCell ⟨g, p, none⟩ u).setCells g (p + 1) r := rfl
theorem setCells_at : ∀ (vs : List Value) (w : World) (g p : Nat) (cur : Array Value) (t : TypeId), w.heap[g]? = some (.cells cur t (0, 0)) → p + vs.length ≤ cur.size → ButS (Ivl g (g + 1)) w (w.setCells g p vs) ∧ ∃ cs : Array Value, (w.setCells g p vs).heap[g]? = some (.cells cs t (0, 0)) ∧ cs.size = cur.size ∧ (∀ i : Nat, i < p → cs[i]? = cur[i]?) ∧ (∀ i : Nat, i < vs.length → cs[p + i]? = vs[i]?)
  | [], w, g, p, cur, t, h, _ => ⟨ButS.refl _ _, cur, h, rfl, fun _ _ => rfl, fun i hi => absurd hi (Nat.not_lt_zero i)⟩
  | u :: r, w, g, p, cur, t, h, hl => by
    have hl2 : p + 1 + r.length ≤ (cur.setIfInBounds p u).size := by rw [Array.size_setIfInBounds]; simp only [List.length_cons] at hl; omega
    obtain ⟨h1, cs, h2, h3, h4, h5⟩ := setCells_at r _ g (p + 1) _ t (blk_put h p u rfl) hl2
    rw [setCells_one]
    refine ⟨(ButS.set h (⟨Nat.le_refl _, Nat.lt_succ_self _⟩ : Ivl g (g + 1) g) p u).trans h1, cs, h2, by rw [h3, Array.size_setIfInBounds], fun i hi => ?_, fun i hi => ?_⟩
    · rw [h4 i (by omega), Array.getElem?_setIfInBounds, if_neg (by omega)]
    · match i, hi with
      | 0, _ =>
        rw [Nat.add_zero, h4 p (by omega), Array.getElem?_setIfInBounds, if_pos rfl, if_pos (by simp only [List.length_cons] at hl; omega)]
        rfl
      | i + 1, hi =>
        rw [show p + (i + 1) = p + 1 + i from by omega, h5 i (by simp only [List.length_cons] at hi; omega)]
        rfl
theorem setCells_all {w : World} {g : Nat} {cur new : Array Value} {t : TypeId} (h : w.heap[g]? = some (.cells cur t (0, 0))) (hs : new.size = cur.size) : (w.setCells g 0 new.toList).heap[g]? = some (.cells new t (0, 0)) ∧ ButS (Ivl g (g + 1)) w (w.setCells g 0 new.toList) := by
  obtain ⟨h1, cs, h2, h3, h4, h5⟩ := setCells_at new.toList w g 0 cur t h (by simp [hs])
  refine ⟨?_, h1⟩
  rw [h2, show cs = new from ?_]
  apply Array.ext_getElem?
  intro i
  by_cases hi : i < new.size
  · have := h5 i (by simpa using hi)
    rw [Nat.zero_add] at this
    rw [this, Array.getElem?_toList]
  · rw [Array.getElem?_eq_none (by omega), Array.getElem?_eq_none (by omega)]
section
variable {P : Program} {ops : Array Oper} {Q : Exit → Act → World → Prop} {md : Region.Mode} {S : World → Prop} {ds : List Nat}
/-- The store of a whole struct into its own box, the region's last event. -/
theorem qBox (i : Nat) {oi : Oper} {fuel : Nat} {l : Array Bool} {a : Act} {w : World} {g : Nat} {cur new : Array Value} {t t2 : TypeId} {pp x : Operand} (hh : w.heap[g]? = some (.cells cur t (0, 0))) (hs : new.size = cur.size) (hop : oi.op = .store t2 pp x) (hp : a.eval pp = .pointer (some ⟨g, 0, none⟩)) (hx : a.eval x = .agg new) (hu : (Value.agg new).cells.toList = new.toList) (ht : (P.info? t2).map (·.size) = some new.toList.length) (h1 : ∀ q ∈ new.toList, q.oneCell' = true)
    (h : ∀ w1, w1.heap[g]? = some (.cells new t (0, 0)) → ButS (Ivl g (g + 1)) w w1 → wpAnyLast P md ops Q S ds fuel (l.setIfInBounds i true) a w1)
    (hc : readyB md ops l (l.setIfInBounds i true) i = true) (hi : ops[i]? = some oi) (hN : oi.dst = none) (hd : i ∈ ds) (hw : Region.wanted oi (yielded ops a.tmps) = true) : wpAnyLast P md ops Q S ds (fuel + 1) l a w := by
  obtain ⟨k1, k2⟩ := setCells_all hh hs
  refine qSkip i (w1 := w.setCells g 0 new.toList) ?_ (h _ k1 k2) hc hi hN hd hw
  have hrun : (Instr.storeAt t2 (.pointer (some ⟨g, 0, none⟩)) (.agg new)).run P w = .ok () (w.setCells g 0 new.toList) := run_store_run t2 _ _ hh hu ht (by rw [Array.length_toList, hs]; omega) h1
  unfold execOp
  simp only [hop, hp, hx, Sem.run_bind, Sem.run_pure, Result.andThen_ok, hrun]
theorem qAl {oi : Oper} {N : Option Tmp} {a : Act} {w : World} {K : Act → World → Prop} {o : Obj} (hrun : (execOp a.eval oi).run P w = .ok (.value (.pointer (some ⟨w.heap.size, 0, none⟩))) (w.alloc o)) (h : ∀ w1, w1.heap[w.heap.size]? = some o → Below w.heap.size w w1 → K (a.put N (.pointer (some ⟨w.heap.size, 0, none⟩))) w1) (hw : Region.wanted oi (yielded ops a.tmps) = true := by kernel_rfl) (hN : oi.dst = N := by rfl) : if Region.wanted oi (yielded ops a.tmps) = true then Oper.wp P oi a w K Q else K (a.put N undef) w :=
  value_ hw hN hrun (h _ (blk_new w o) (below_alloc (Below.refl _ _) o))
theorem qNA {fuel : Nat} {l : Array Bool} {a a' : Act} {w : World} (h : wpAnyLast P md ops Q S ds fuel l a' w) (ha : a = a' := by simp only [putAll, Act.put, List.setIfInBounds_toArray, List.set_cons_zero, List.set_cons_succ]; rfl) : wpAnyLast P md ops Q S ds fuel l a w := norm_ ha h
theorem qJ {fuel fuel' : Nat} {l l' : Array Bool} {a a' : Act} {w : World} (h : wpAnyLast P md ops Q S ds fuel' l' a' w) (hf : fuel = fuel' := by rfl) (hl : l = l' := by kernel_rfl) (ha : a' = a := by first | (simp only [putAll, Act.put, List.setIfInBounds_toArray, List.set_cons_zero, List.set_cons_succ]; done) | (simp only [putAll, Act.put, List.setIfInBounds_toArray, List.set_cons_zero, List.set_cons_succ]; rfl)) : wpAnyLast P md ops Q S ds fuel l a w := by
  subst hf hl ha
  exact h
end
theorem RR4.low {w : World} {a a2 b : Nat} {v0 v1 v2 v3 : Value} {q : GV} (h : RR4 w a b v0 v1 v2 v3 q) (hl : a2 ≤ a) : RR4 w a2 b v0 v1 v2 v3 q := ⟨Kd.R_lower h.1 hl, Kd.R_lower h.2.1 hl, Kd.R_lower h.2.2.1 hl, Kd.R_lower h.2.2.2 hl⟩
theorem R_box {α : Type} {d : Kd α} {e g : Nat} {w W : World} {a b : Nat} {v : Value} {xs : List α} {cs : Array Value} {t : TypeId} (h : d.R e w a (fun k => k < b) v xs) (hz : w.heap[g]? = some (.cells cs t (0, 0))) (hb : ButS (Ivl g (g + 1)) w W) (ht : ∀ q, q ∈ e :: d.E → q ≠ t) : d.R e W a (fun k => k < b) v xs :=
  Kd.R_mono (Kd.R_move (Kd.R_bound h) (fun k hk => hb.block k hk.2.2.1 (fun hs => by
    obtain rfl : k = g := by have h1 := hs.1; have h2 := hs.2; omega
    obtain ⟨_, _, _, q, hq, c, hc⟩ := hk
    exact ht q hq (TypeAt.ne ⟨c, hc⟩ ⟨cs, hz⟩)))) (fun k hk => hk.1)
theorem RR4.box {w W : World} {a b g : Nat} {v0 v1 v2 v3 : Value} {q : GV} {cs : Array Value} (h : RR4 w a b v0 v1 v2 v3 q) (hz : w.heap[g]? = some (.cells cs 48 (0, 0))) (hb : ButS (Ivl g (g + 1)) w W) : RR4 W a b v0 v1 v2 v3 q :=
  ⟨R_box h.1 hz hb (by decide), R_box h.2.1 hz hb (by decide), R_box h.2.2.1 hz hb (by decide), R_box h.2.2.2 hz hb (by decide)⟩
def SzL (gm wm : ByteArray) (g : List S140) (l : List S145) (us : List S92) (ss : List S76) (fs : List S81) (rs : List S83) : Prop := g.length ≤ 1048576 ∧ l.length ≤ 1048576 ∧ (∀ x ∈ l, x.f1.length ≤ 1048576 ∧ x.f0.size ≤ 1152921504606846976) ∧ gm.size ≤ 1152921504606846976 ∧ wm.size ≤ 1152921504606846976 ∧ us.length ≤ 1048576 ∧ ss.length ≤ 1048576 ∧ fs.length ≤ 1048576 ∧ rs.length ≤ 1048576 ∧ (∀ u ∈ us, u.f0.size ≤ 1152921504606846976 ∧ u.f1.size ≤ 1152921504606846976 ∧ u.f2.size ≤ 1152921504606846976) ∧ (∀ s ∈ ss, s.f2.size ≤ 1152921504606846976) ∧ (∀ f ∈ fs, f.f0.size ≤ 1152921504606846976)
end
section
-- NEEDS laws.eqConfig impl.cloneGuests (*impl.Guests).expire$1 (*impl.Guests).moved$1 slices.Clone[[]impl.Session,impl.Session]
/-- The store of a whole struct into its own box, in a plain region. -/
theorem raw_box {P : Program} {ops : Array Oper} {rest : List Oper} {o : Oper} {a : Act} {Q : Exit → Act → World → Prop} {w : World} {g : Nat} {cur new : Array Value} {t t2 : TypeId} {pp x : Operand} (hh : w.heap[g]? = some (.cells cur t (0, 0))) (hs : new.size = cur.size) (hop : o.op = .store t2 pp x) (hN : o.dst = none) (hgd : o.guard = none) (hp : a.eval pp = .pointer (some ⟨g, 0, none⟩)) (hx : a.eval x = .agg new) (hu : (Value.agg new).cells.toList = new.toList) (ht : (P.info? t2).map (·.size) = some new.toList.length) (h1 : ∀ q ∈ new.toList, q.oneCell' = true)
    (h : ∀ w1, w1.heap[g]? = some (.cells new t (0, 0)) → ButS (Ivl g (g + 1)) w w1 → wpList P ops Q rest a w1) : wpList P ops Q (o :: rest) a w := by
  obtain ⟨k1, k2⟩ := setCells_all hh hs
  refine wpList_plain hgd fun K hK => ?_
  have hrun : (Instr.storeAt t2 (.pointer (some ⟨g, 0, none⟩)) (.agg new)).run P w = .ok () (w.setCells g 0 new.toList) := run_store_run t2 _ _ hh hu ht (by rw [Array.length_toList, hs]; omega) h1
  unfold Oper.wp execOp
  simp only [hop, hp, hx, Sem.run_bind, Sem.run_pure, Result.andThen_ok, hrun]
  show K (a.put o.dst undef) _
  rw [hN]
  exact hK _ _ (h _ k1 k2)
theorem R_one {α : Type} {d : Kd α} {e g base : Nat} {w W : World} {v : Value} {xs : List α} {cs : Array Value} {t : TypeId} (h : d.R e w base (fun _ => True) v xs) (hz : w.heap[g]? = some (.cells cs t (0, 0))) (hb : ButS (Ivl g (g + 1)) w W) (ht : ∀ q, q ∈ e :: d.E → q ≠ t) : d.R e W base (fun _ => True) v xs :=
  Kd.R_mono (Kd.R_move (Kd.R_bound h) (fun k hk => hb.block k hk.2.2.1 (fun hs => by
    obtain rfl : k = g := by have h1 := hs.1; have h2 := hs.2; omega
    obtain ⟨_, _, _, q, hq, c, hc⟩ := hk
    exact ht q hq (TypeAt.ne ⟨c, hc⟩ ⟨cs, hz⟩)))) (fun _ _ => trivial)
theorem split_at {k : Int} {kp tl cur : List S76} (hc : cur = kp ++ tl) (hk : k = kp.length) (hlt : k < cur.length) : tl = rd_T76 cur k :: tl.drop 1 ∧ cur = kp ++ (rd_T76 cur k :: tl.drop 1) := by
  subst hc
  subst hk
  match tl with
  | [] => rw [List.append_nil] at hlt; omega
  | s :: t =>
    rw [rd_at]
    exact ⟨rfl, rfl⟩
theorem split_erase {k : Int} {kp tl cur : List S76} (hc : cur = kp ++ tl) (hk : k = kp.length) : cur.eraseIdx k.toNat = kp ++ tl.drop 1 := by
  subst hc
  subst hk
  match tl with
  | [] => rw [Int.toNat_natCast, List.append_nil, List.eraseIdx_of_length_le (Nat.le_refl _)]; simp
  | s :: t => exact erase_at kp t s
theorem split_end {k : Int} {kp tl cur : List S76} (hc : cur = kp ++ tl) (hk : k = kp.length) (hle : (cur.length : Int) ≤ k) : tl = [] := by
  subst hc
  rw [List.length_append] at hle
  exact List.eq_nil_of_length_eq_zero (by omega)
theorem erase_len2 {l : List S76} {k : Int} (h0 : 0 ≤ k) (h : k < l.length) : (l.eraseIdx k.toNat).length + 1 = l.length := by
  rw [List.length_eraseIdx, if_pos (by omega)]; omega
theorem rec_or {w0 w2 : World} {B3 X3 : Option Addr} {d3 x3 : Nat} {rs RR : List S83} (h : (X3 = B3 ∧ x3 = d3 ∧ RR = rs) ∨ Kd.R k83 83 w2 w0.heap.size (fun _ => True) (.slice X3 RR.length x3) RR) (h3 : Kd.R k83 83 w2 0 (fun _ => True) (.slice B3 rs.length d3) rs) : Kd.R k83 83 w2 0 (fun _ => True) (.slice X3 RR.length x3) RR := by
  rcases h with ⟨rfl, rfl, rfl⟩ | h
  · exact h3
  · exact Kd.R_lower h (Nat.zero_le _)
theorem Kd.R_set5 {α : Type} {d : Kd α} {e g base : Nat} {w : World} {v x0 x1 x2 x3 x4 : Value} {xs : List α} {cs : Array Value} {t : TypeId} (h : d.R e w base (fun _ => True) v xs) (hz : w.heap[g]? = some (.cells cs t (0, 0))) (ht : ∀ q, q ∈ e :: d.E → q ≠ t) : d.R e (((((w.setCell ⟨g, 0, none⟩ x0).setCell ⟨g, 1, none⟩ x1).setCell ⟨g, 2, none⟩ x2).setCell ⟨g, 3, none⟩ x3).setCell ⟨g, 4, none⟩ x4) base (fun _ => True) v xs :=
  Kd.R_mono (Kd.R_move (Kd.R_bound h) (fun k hk => by
    have hne : k ≠ g := by
      rintro rfl
      obtain ⟨_, _, _, q, hq, c, hc⟩ := hk
      exact ht q hq (TypeAt.ne ⟨c, hc⟩ ⟨cs, hz⟩)
    repeat (with_reducible refine (Below.heap_setCell _ _ _ _ hne).trans ?_)
    rfl)) (fun _ _ => trivial)
theorem beq_em2 (s : S76) (mac : ByteArray) (ip : Int) : ((((s.f2.toList == mac.toList) == (s.f3 == ip)) = false) ∧ Aside0 (czM mac ip s = 5)) ∨ ((((s.f2.toList == mac.toList) == (s.f3 == ip)) = true) ∧ Aside0 (czM mac ip s = 0)) := by
  unfold czM
  cases s.f2.toList == mac.toList <;> cases s.f3 == ip
  · exact .inr ⟨rfl, ⟨rfl⟩⟩
  · exact .inl ⟨rfl, ⟨rfl⟩⟩
  · exact .inl ⟨rfl, ⟨rfl⟩⟩
  · exact .inr ⟨rfl, ⟨rfl⟩⟩
set_option maxHeartbeats 8000000 in
set_option maxRecDepth 100000 in
theorem sMov1 (B0 B1 B2 B3 : Option Addr) (n0 n2 d0 d1 d2 d3 : Nat) (ss : List S76) (rs : List S83) (nx : Int) (mac : ByteArray) (ip now : Int) (w : World) (h1 : Kd.R k76 76 w 0 (fun _ => True) (.slice B1 ss.length d1) ss) (h3 : Kd.R k83 83 w 0 (fun _ => True) (.slice B3 rs.length d3) rs) (z1 : ss.length ≤ 1048576) (z3 : rs.length ≤ 1048576) :
    Calls Tryz.prog 83 #[.agg #[.slice B0 n0 d0, .slice B1 ss.length d1, .slice B2 n2 d2, .slice B3 rs.length d3, .int .i64 nx], .string mac, .int .i64 ip, .int .i64 now] w fun e w' => ∃ (X1 : Option Addr) (x1 : Nat) (X3 : Option Addr) (x3 : Nat) (v : Value), e = .returned (.tuple #[.agg #[.slice B0 n0 d0, .slice X1 (endF (czM mac ip) now [] ss rs []).1.length x1, .slice B2 n2 d2, .slice X3 (endF (czM mac ip) now [] ss rs []).2.1.length x3, .int .i64 nx], v]) ∧ Kd.R k76 76 w' 0 (fun _ => True) (.slice X1 (endF (czM mac ip) now [] ss rs []).1.length x1) (endF (czM mac ip) now [] ss rs []).1 ∧ Kd.R k83 83 w' 0 (fun _ => True) (.slice X3 (endF (czM mac ip) now [] ss rs []).2.1.length x3) (endF (czM mac ip) now [] ss rs []).2.1 ∧ Kd.R (Kd.int .i64) 3 w' w.heap.size (fun _ => True) v (endF (czM mac ip) now [] ss rs []).2.2 ∧ Below w.heap.size w w' := by
  have hu := Tryz.underlying48
  have hu2 := Tryz.underlying76
  have H1 := Aside0.mk h1
  have H3 := Aside0.mk h3
  clear h1 h3
  have HB := Aside0.mk (Below.refl w.heap.size w)
  go_enter Tryz.func83, Tryz.ntmps83
  go_wp2_with (first
    | ((with_reducible refine gate_dst (N := 13) rfl ?_); refine Kd.R_lit (Kd.int .i64) (w0 := w) w.heap.size 3 ?hg (N := 13) ?hd (xs := ([] : List Int)) (inner := []) (ok := fun _ => True) (okp := fun _ => False) ?hr ?hp (fun _ hk => hk.elim) trivial (below_alloc (below_alloc (Below.refl w.heap.size w) _) _) (below_alloc (below_alloc (Below.refl w.heap.size w) _) _).size (by simp) ?_; (case hd => rfl); (case hg => rfl); (case hr => first | (go_simp; done) | (go_simp; rfl)); (case hp => exact (Reps.none _ _)); intro vi wL ho hb hg_ hnew_; have HI := Aside0.mk ho; clear HB; have HB := Aside0.mk hb; have HX := Aside0.mk (blk_grown (blk_alloc (blk_new w (.cells #[.slice B0 n0 d0, .slice B1 ss.length d1, .slice B2 n2 d2, .slice B3 rs.length d3, .int .i64 nx] 48 (0, 0))) (.cells #[.slice none 0 0, .slice none 0 0, .slice none 0 0, .slice none 0 0, .int .i64 0] 48 (0, 0))) hg_ (by simp)); have HR := Aside0.mk (blk_grown (blk_new1 w (.cells #[.slice B0 n0 d0, .slice B1 ss.length d1, .slice B2 n2 d2, .slice B3 rs.length d3, .int .i64 nx] 48 (0, 0)) (.cells #[.slice none 0 0, .slice none 0 0, .slice none 0 0, .slice none 0 0, .int .i64 0] 48 (0, 0))) hg_ (by simp)); have n_ := Aside0.mk (Kd.R_below H1.out hb); clear H1; have H1 := n_; clear n_; have n_ := Aside0.mk (Kd.R_below H3.out hb); clear H3; have H3 := n_; clear n_; clear ho hb hg_ hnew_))
  go_loopg [10, 11] ss.length (fun gg_ vv vk w' => ∃ (k : Int) (kp tl cur : List S76) (rs2 : List S83) (ids : List Int) (X1 : Option Addr) (x1 : Nat) (X3 : Option Addr) (x3 : Nat), vk = .int .i64 k ∧ Aside0 (k = kp.length) ∧ 0 ≤ k ∧ k ≤ cur.length ∧ cur.length - k ≤ gg_ ∧ cur.length + ids.length ≤ ss.length ∧ rs2.length ≤ 1048576 ∧ Aside0 (cur = kp ++ tl) ∧ Aside0 (endF (czM mac ip) now kp tl rs2 ids = (endF (czM mac ip) now [] ss rs [])) ∧ Aside0 (w'.heap[w.heap.size]? = some (.cells #[.slice B0 n0 d0, .slice X1 cur.length x1, .slice B2 n2 d2, .slice X3 rs2.length x3, .int .i64 nx] 48 (0, 0)) ∧ w'.heap[w.heap.size + 1]? = some (.cells #[.slice none 0 0, .slice none 0 0, .slice none 0 0, .slice none 0 0, .int .i64 0] 48 (0, 0)) ∧ Kd.R k76 76 w' 0 (fun _ => True) (.slice X1 cur.length x1) cur ∧ Kd.R k83 83 w' 0 (fun _ => True) (.slice X3 rs2.length x3) rs2 ∧ Kd.R (Kd.int .i64) 3 w' w.heap.size (fun _ => True) vv ids ∧ Below w.heap.size w w'))
  case atStart => exact ⟨0, [], ss, ss, rs, [], B1, d1, B3, d3, rfl, ⟨rfl⟩, Int.le_refl _, by omega, by omega, by simp, z3, ⟨rfl⟩, ⟨rfl⟩, ⟨HX.out, HR.out, H1.out, H3.out, HI.out, HB.out⟩⟩
  case round =>
    clear HX HR H1 H3 HI HB
    obtain ⟨k, kp, tl, cur, rs2, ids, X1, x1, X3, x3, rfl, EK, hk0, hk1, hgg, hlen, hr_, ECUR, HE, HF⟩ := hrel
    have HX := Aside0.mk HF.out.1
    have HR := Aside0.mk HF.out.2.1
    have H1 := Aside0.mk HF.out.2.2.1
    have H3 := Aside0.mk HF.out.2.2.2.1
    have HI := Aside0.mk HF.out.2.2.2.2.1
    have HB := Aside0.mk HF.out.2.2.2.2.2
    clear HF
    have hcx := blk_cell HX.out
    have hzx := blk_lt HX.out
    have hzr := blk_lt HR.out
    have hw0 := blk_lt HR.out
    by_cases hlt : k < cur.length
    · obtain ⟨ad, eA, hrow⟩ := at_T76 (R_toC H1.out).2 k hk0 hlt
      subst eA
      have hcl : cur.length ≤ 1048576 := by omega
      have EDR := Aside0.mk (split_at ECUR.out EK.out hlt)
      rcases beq_em2 (rd_T76 cur k) mac ip with ⟨b6, hcz⟩ | ⟨b6, hcz⟩
      · go_wp2_with (first
          | (go_at_call 66; go_loud (have hal := below_alloc (Below.refl wr.heap.size wr) (.cells #[.int .i64 (rd_T76 cur k).f0, .int .i64 (rd_T76 cur k).f1, .string (rd_T76 cur k).f2, .int .i64 (rd_T76 cur k).f3, .int .i64 (rd_T76 cur k).f4, .int .i64 (rd_T76 cur k).f5, .int .i64 (rd_T76 cur k).f6, .int .i64 (rd_T76 cur k).f7, .int .i64 (rd_T76 cur k).f8, .int .i64 (rd_T76 cur k).f9] 76 (0, 0)); refine (sEnd2 B0 (some ad) B2 X3 _ _ d0 x1 d2 x3 cur rs2 nx k now 5 _ (Kd.C_below (R_toC H1.out).2 hal) (R_toC H1.out).1 (Kd.C_below (R_toC H3.out).2 hal) (R_toC H3.out).1 hk0 hlt hcl hr_).mono ?_; rintro e w5 ⟨Y1, y1, Y3, y3, rfl, q1, q3, hb0⟩; have hb := below_step hal hb0; have HU := Aside0.mk (blk_below (blk_new wr (.cells #[.int .i64 (rd_T76 cur k).f0, .int .i64 (rd_T76 cur k).f1, .string (rd_T76 cur k).f2, .int .i64 (rd_T76 cur k).f3, .int .i64 (rd_T76 cur k).f4, .int .i64 (rd_T76 cur k).f5, .int .i64 (rd_T76 cur k).f6, .int .i64 (rd_T76 cur k).f7, .int .i64 (rd_T76 cur k).f8, .int .i64 (rd_T76 cur k).f9] 76 (0, 0))) hb0); have K3 := Aside0.mk (rec_or q3 (Kd.R_below H3.out hb)); have K1 := Aside0.mk (Kd.R_lower q1 (Nat.zero_le _)); clear q1 q3 H1 H3; have n_ := Aside0.mk (blk_below HX.out hb); clear HX; have HX := n_; clear n_; have n_ := Aside0.mk (blk_below HR.out hb); clear HR; have HR := n_; clear n_; have n_ := Aside0.mk (Kd.R_below HI.out hb); clear HI; have HI := n_; clear n_; have n_ := Aside0.mk (below_step HB.out hb); clear HB; have HB := n_; clear n_; clear hrow hcx hzx hzr hb hb0 hal; have wz := blk_lt HU.out))
          | ((with_reducible refine gate_store (p := 4) rfl ?_); go_loud (refine raw_box (new := #[.slice B0 n0 d0, .slice Y1 (cur.eraseIdx k.toNat).length y1, .slice B2 n2 d2, .slice Y3 (endRS rs2 (rd_T76 cur k) now 5).length y3, .int .i64 nx]) HX.out rfl rfl rfl rfl rfl rfl rfl (by kernel_rfl) (by intro q hq; simp only [List.mem_cons, List.not_mem_nil, or_false] at hq; rcases hq with rfl | rfl | rfl | rfl | rfl <;> rfl) ?_; intro w6 hbx hbs; have H1 := Aside0.mk (R_one K1.out HX.out hbs (by decide)); have H3 := Aside0.mk (R_one K3.out HX.out hbs (by decide)); have n_ := Aside0.mk (R_one HI.out HX.out hbs (by decide)); clear HI; have HI := n_; clear n_ K1 K3; have n_ := Aside0.mk (blk_I HR.out hbs (by omega)); clear HR; have HR := n_; clear n_; have n_ := Aside0.mk (blk_I HU.out hbs (by omega)); clear HU; have HU := n_; clear n_; have n_ := Aside0.mk (Below_I HB.out hbs (by omega)); clear HB; have HB := n_; clear n_; clear HX; have HX := Aside0.mk hbx; clear hbx hbs; have hcx := blk_cell HX.out; have hzx := blk_lt HX.out; have hzr := blk_lt HR.out; have hcu := blk_cell HU.out; have hzu := blk_lt HU.out))
          | ((with_reducible refine gate_builtin (b := .append) (xs := #[.tmp 39, .tmp 42]) rfl ?_); at_builtin; refine Kd.R_append (Kd.int .i64) (w0 := w) w.heap.size rfl (.tmp 39) (.tmp 42) 58 3 (.int .i64 0) 8 rfl Tryz.underlying58 info3 rfl (by decide) (by omega) _ ids ((rd_T76 cur k).f0) [.int .i64 ((rd_T76 cur k).f0)] (fun _ => True) (fun _ => False) rfl (by first | (go_simp; done) | (go_simp; rfl)) ?aP (fun _ hk => hk.elim) (fun _ _ => trivial) HI.out HB.out ?aS ?aL ?_; (case aP => exact rfl); (case aS => exact HB.out.size); (case aL => omega); intro v7 w7 ho hb1 hg hat; have n_ := Aside0.mk (blk_grown HX.out hg (Kd.R_ne HI.out HX.out (by decide))); clear HX; have HX := n_; clear n_; have n_ := Aside0.mk (blk_grown HR.out hg (Kd.R_ne HI.out HR.out (by decide))); clear HR; have HR := n_; clear n_; have n_ := Aside0.mk (blk_grown HU.out hg (Kd.R_ne HI.out HU.out (by decide))); clear HU; have HU := n_; clear n_; have n_ := Aside0.mk (Kd.R_over' H1.out (Kd.R_typed HI.out) (by decide) hg); clear H1; have H1 := n_; clear n_; have n_ := Aside0.mk (Kd.R_over' H3.out (Kd.R_typed HI.out) (by decide) hg); clear H3; have H3 := n_; clear n_; clear HB; have HB := Aside0.mk hb1; clear HI; have HI := Aside0.mk ho; clear ho hb1 hg hat hcx hzx hzr hcu hzu; have hcx := blk_cell HX.out; have hzx := blk_lt HX.out; have hzr := blk_lt HR.out; have hcu := blk_cell HU.out; have hzu := blk_lt HU.out))
        have eer := erase_len2 (l := cur) (k := k) hk0 hlt
        go_roundg (cur.length - (k + 1)).toNat
        case measure => omega
        case rel => exact ⟨k, kp, tl.drop 1, cur.eraseIdx k.toNat, endRS rs2 (rd_T76 cur k) now 5, ids ++ [(rd_T76 cur k).f0], Y1, y1, Y3, y3, rfl, EK, hk0, by omega, by omega, by rw [List.length_append, List.length_singleton]; omega, rec_len _ _ _ _ hr_, ⟨split_erase ECUR.out EK.out⟩, ⟨by rw [← HE.out, EDR.out.1, endF_yes (show ¬ (czM mac ip) (rd_T76 cur k) = 0 from by rw [hcz.out]; decide), hcz.out]; rfl⟩, ⟨HX.out, HR.out, H1.out, H3.out, HI.out, HB.out⟩⟩
      · have hwk : IntKind.i64.wrap (k + 1) = k + 1 := i64id (by omega) (by omega)
        go_wp2
        have n_ := Aside0.mk (below_alloc (Below.refl wr.heap.size wr) (.cells #[.int .i64 (rd_T76 cur k).f0, .int .i64 (rd_T76 cur k).f1, .string (rd_T76 cur k).f2, .int .i64 (rd_T76 cur k).f3, .int .i64 (rd_T76 cur k).f4, .int .i64 (rd_T76 cur k).f5, .int .i64 (rd_T76 cur k).f6, .int .i64 (rd_T76 cur k).f7, .int .i64 (rd_T76 cur k).f8, .int .i64 (rd_T76 cur k).f9] 76 (0, 0)))
        go_roundg (cur.length - (k + 1)).toNat
        case measure => omega
        case rel => exact ⟨k + 1, kp ++ [(rd_T76 cur k)], tl.drop 1, cur, rs2, ids, some ad, x1, X3, x3, rfl, ⟨by rw [List.length_append, List.length_singleton, EK.out]; omega⟩, by omega, by omega, by omega, hlen, hr_, ⟨by rw [List.append_assoc]; exact EDR.out.2⟩, ⟨by rw [← HE.out, EDR.out.1, endF_no (show (czM mac ip) (rd_T76 cur k) = 0 from by rw [hcz.out])]; rfl⟩, ⟨blk_below HX.out n_.out, blk_below HR.out n_.out, Kd.R_below H1.out n_.out, Kd.R_below H3.out n_.out, Kd.R_below HI.out n_.out, below_step HB.out n_.out⟩⟩
    · obtain rfl : tl = [] := split_end ECUR.out EK.out (by omega)
      have he := HE.out
      rw [endF] at he
      have hc := ECUR.out
      rw [List.append_nil] at hc
      subst hc
      have fx := blk_frozen HR.out
      have hcr := blk_cell HR.out
      go_wp2
      (try simp only [Exit.inBlock, Exit.then])
      refine bodyPost_ret (results_ct rfl _ _ (w.heap.size + 1) 48 #[.slice B0 n0 d0, .slice X1 cur.length x1, .slice B2 n2 d2, .slice X3 rs2.length x3, .int .i64 nx] (0, 0) _ rfl (res5 HR.out) hu rfl (by kernel_rfl)) rfl ⟨X1, x1, X3, x3, _, (by rw [← he]), ?_⟩
      rw [← he]
      refine ⟨Kd.R_set5 H1.out HR.out (by decide), Kd.R_set5 H3.out HR.out (by decide), Kd.R_set5 HI.out HR.out (by decide), ?_⟩
      repeat' (with_reducible first | exact HB.out | refine below_set ?_ (by omega))
end
section
-- NEEDS laws.eqConfig impl.cloneGuests
theorem clone_f (us : List S92) (ss : List S76) (fs : List S81) (rs : List S83) (nx : Int) (y0 : us.length ≤ 1048577) (y1 : ss.length ≤ 1048577) (y2 : fs.length ≤ 1048577) (y3 : rs.length ≤ 1048577) : impl_cloneGuests.f us ss fs rs nx = some (us, ss, fs, rs, nx) := by
  have e0 : impl_User.f us = some us := by
    simp only [impl_User.f, Option.bind_some, List.length_nil, Nat.zero_add, List.nil_append]
    rw [if_pos (by omega)]
  have e1 : impl_Session_122.f ss = some ss := by
    simp only [impl_Session_122.f, Option.bind_some, List.length_nil, Nat.zero_add, List.nil_append]
    rw [if_pos (by omega)]
  have e2 : impl_Fail.f fs = some fs := by
    simp only [impl_Fail.f, Option.bind_some, List.length_nil, Nat.zero_add, List.nil_append]
    rw [if_pos (by omega)]
  have e3 : impl_Record_124.f rs = some rs := by
    simp only [impl_Record_124.f, Option.bind_some, List.length_nil, Nat.zero_add, List.nil_append]
    rw [if_pos (by omega)]
  rw [impl_cloneGuests.f, e0, Option.bind_some, e1, Option.bind_some, e2, Option.bind_some, e3, Option.bind_some]
end
section
-- NEEDS laws.eqConfig impl.cloneGuests
theorem below_base {w W V : World} {b : Nat} (h : Below w.heap.size w W) (hb : Below b W V) (hle : w.heap.size ≤ b) : Below w.heap.size w V := h.trans ⟨hb.os, hb.tape, hb.output, hb.size, fun k hk => hb.block k (Nat.lt_of_lt_of_le hk hle)⟩
end
section
-- NEEDS laws.eqConfig spec.l08Own impl.cloneGuests (*impl.Guests).expire$1 (*impl.Guests).moved$1
theorem endF_len {cz : S76 → Int} {now : Int} : ∀ {t kp : List S76} {rs : List S83} {ids : List Int} {S : List S76} {R : List S83} {J : List Int}, endF cz now kp t rs ids = (S, R, J) → rs.length ≤ 1048576 → S.length ≤ kp.length + t.length ∧ R.length ≤ 1048576 ∧ J.length ≤ ids.length + t.length
  | [], kp, rs, ids, S, R, J, h, hr => by
    rw [endF] at h
    injection h with h1 h2
    injection h2 with h2 h3
    subst h1 h2 h3
    exact ⟨by simp, hr, by simp⟩
  | s :: t, kp, rs, ids, S, R, J, h, hr => by
    rw [endF] at h
    split at h
    · have q := endF_len h hr
      simp only [List.length_append, List.length_cons, List.length_nil] at q ⊢
      omega
    · have q := endF_len h (rec_len _ _ _ _ hr)
      simp only [List.length_append, List.length_cons, List.length_nil] at q ⊢
      omega
/-- What ExpireSessions and EndMoved answer. -/
def AllOut (P : Prop) (q : GV) (cz : S76 → Int) (now : Int) (r : GV) (ids : List Int) (code : Int) : Prop :=
  (AskP P now code ∧ code ≠ 0 ∧ r = GV.none ∧ ids = []) ∨ (AskP P now 0 ∧ (∃ S R J, endF cz now [] q.ss q.rs [] = (S, R, J) ∧ r = ⟨q.us, S, q.fs, R, q.nx⟩ ∧ ids = J) ∧ code = 0)
theorem AllOut.same {P : Prop} {q r r2 : GV} {cz : S76 → Int} {now c c2 : Int} {i i2 : List Int} (h : AllOut P q cz now r i c) (k : AllOut P q cz now r2 i2 c2) : r = r2 ∧ i = i2 ∧ c = c2 := by
  rcases h with ⟨a1, a2, rfl, rfl⟩ | ⟨a1, ⟨S, R, J, a2, rfl, rfl⟩, rfl⟩ <;> rcases k with ⟨b1, b2, rfl, rfl⟩ | ⟨b1, ⟨S2, R2, J2, b2, rfl, rfl⟩, rfl⟩
  · exact ⟨rfl, rfl, a1.same b1⟩
  · exact absurd (a1.same b1) a2
  · exact absurd (b1.same a1) b2
  · rw [a2] at b2
    injection b2 with e1 e2
    injection e2 with e2 e3
    subst e1 e2 e3
    exact ⟨rfl, rfl, rfl⟩
def MovOut (P : Prop) (q : GV) (mac : ByteArray) (ip now : Int) (r : GV) (ids : List Int) (code : Int) : Prop :=
  (65536 < (mac.size : Int) ∧ r = GV.none ∧ ids = [] ∧ code = 2) ∨ (¬ 65536 < (mac.size : Int) ∧ AllOut P q (czM mac ip) now r ids code)
theorem MovOut.same {P : Prop} {q r r2 : GV} {mac : ByteArray} {ip now c c2 : Int} {i i2 : List Int} (h : MovOut P q mac ip now r i c) (k : MovOut P q mac ip now r2 i2 c2) : r = r2 ∧ i = i2 ∧ c = c2 := by
  rcases h with ⟨a1, rfl, rfl, rfl⟩ | ⟨a1, a2⟩ <;> rcases k with ⟨b1, rfl, rfl, rfl⟩ | ⟨b1, b2⟩
  · exact ⟨rfl, rfl, rfl⟩
  · exact absurd a1 b1
  · exact absurd b1 a1
  · exact a2.same b2
theorem apart_all {ip b gate : Int} {gm wm : ByteArray} {res : Int} {g : List S140} {l : List S145} {us : List S92} {ss : List S76} {fs : List S81} {rs : List S83} {nx : Int} (h : GuestsP ip b gate gm wm res g l us ss fs rs nx) : Apart ss := by
  have hu := h.2.2.2.2.2.2.2.1
  have step : ∀ (n : Nat) (i j : Nat) (hj : j < ss.length) (hij : i + n + 1 = j), (rd_T76 ss (i : Int)).f0 < (rd_T76 ss (j : Int)).f0 := by
    intro n
    induction n with
    | zero =>
      intro i j hj hij
      have q := (hu j (by omega) (by omega)).1 (by omega)
      rwa [show ((j : Int) - 1) = (i : Int) by omega] at q
    | succ n ih =>
      intro i j hj hij
      have q := (hu j (by omega) (by omega)).1 (by omega)
      have q2 := ih i (j - 1) (by omega) (by omega)
      rw [show ((j : Int) - 1) = ((j - 1 : Nat) : Int) by omega] at q
      omega
  unfold Apart
  rw [List.pairwise_iff_getElem]
  intro i j hi hj hij
  have q := step (j - i - 1) i j hj (by omega)
  rw [rd_T76, rd_T76, Int.toNat_natCast, Int.toNat_natCast, List.getD_eq_getElem?_getD, List.getD_eq_getElem?_getD, List.getElem?_eq_getElem hi, List.getElem?_eq_getElem hj] at q
  simp only [Option.getD_some] at q
  omega
theorem AskP.yes {P : Prop} {now : Int} (h : AskP P now 0) : P := by
  rcases h with ⟨_, h, _⟩ | ⟨h, _⟩ | ⟨h, _⟩
  · exact h
  · exact absurd h (by decide)
  · exact absurd h (by decide)
theorem R_othS {α : Type} {d : Kd α} {e : Nat} {w W : World} {base gg : Nat} {v : Value} {xs : List α} (h : d.R e w base (fun _ => True) v xs) (hk : OthS gg w W) (hg : TypeAt w gg 48) (ht : ∀ q, q ∈ e :: d.E → q ≠ 76 ∧ q ≠ 83 ∧ q ≠ 48) : d.R e W base (fun _ => True) v xs := by
  refine Kd.R_mono (Kd.R_move (Kd.R_bound h) (fun k hk1 => ?_)) (fun _ _ => trivial)
  obtain ⟨_, _, h3, q, hq, c, hc⟩ := hk1
  obtain ⟨t1, t2, t3⟩ := ht q hq
  exact hk.2 k h3 (fun he => t3 (TypeAt.ne ⟨c, hc⟩ (he ▸ hg))) (fun hy => t1 (TypeAt.ne ⟨c, hc⟩ hy)) (fun hy => t2 (TypeAt.ne ⟨c, hc⟩ hy))
theorem R_lo {α : Type} {d : Kd α} {e : Nat} {w : World} {base b2 : Nat} {ok : Nat → Prop} {v : Value} {xs : List α} (h : d.R e w base ok v xs) (hb : b2 ≤ base) : d.R e w b2 (fun _ => True) v xs := Kd.R_lower (Kd.R_mono h (fun _ _ => trivial)) hb
theorem sz_set (w : World) (a : Addr) (v : Value) : (w.setCell a v).heap.size = w.heap.size := by simp [World.setCell]
theorem R_emp {α : Type} {d : Kd α} {e base n : Nat} {W : World} (hn : n = W.heap.size) (hb : base ≤ n) : d.R e (W.alloc (.cells #[] e (0, 0))) base (fun _ => True) (.slice (some ⟨n, 0, none⟩) 0 0) [] := by
  subst hn
  exact ⟨fun _ _ => trivial, [], by simpa using World.ownsRow_lit (base := base) (e := e) (size := d.sz) W (#[] : Array Value) 0 hb (by simp) (by simp), Reps.none _ _⟩
set_option maxHeartbeats 8000000 in
set_option maxRecDepth 100000 in
theorem sMovS1 (ip b gate : Int) (gm wm : ByteArray) (res : Int) (A6 : Option Addr) (c6 : Nat) (g : List S140) (A7 : Option Addr) (c7 : Nat) (l : List S145) (B0 B1 B2 B3 : Option Addr) (d0 d1 d2 d3 : Nat) (us : List S92) (ss : List S76) (fs : List S81) (rs : List S83) (nx : Int) (mac : ByteArray) (ip2 now : Int) (w : World) (hg : Kd.C k140 w A6 g.length g) (hl : Kd.C k145 w A7 l.length l) (h0 : Kd.C k92 w B0 us.length us) (h1 : Kd.R k76 76 w 0 (fun _ => True) (.slice B1 ss.length d1) ss) (h2 : Kd.C k81 w B2 fs.length fs) (h3 : Kd.R k83 83 w 0 (fun _ => True) (.slice B3 rs.length d3) rs) (zg : g.length ≤ 1048576) (zl : l.length ≤ 1048576) (zr : ∀ x ∈ l, x.f1.length ≤ 1152921504606846976 ∧ x.f0.size ≤ 1152921504606846976) (zm : gm.size ≤ 1152921504606846976) (zw : wm.size ≤ 1152921504606846976) (y0 : us.length ≤ 1048576) (y1 : ss.length ≤ 1048576) (y2 : fs.length ≤ 1048576) (y3 : rs.length ≤ 1048576) (m0 : us.length ≤ d0) (m1 : ss.length ≤ d1) (m2 : fs.length ≤ d2) (m3 : rs.length ≤ d3) (zu : ∀ u ∈ us, u.f0.size ≤ 1152921504606846976 ∧ u.f1.size ≤ 1152921504606846976 ∧ u.f2.size ≤ 1152921504606846976) (zs : ∀ s ∈ ss, s.f2.size ≤ 1152921504606846976) (zf : ∀ f ∈ fs, f.f0.size ≤ 1152921504606846976) :
    Calls Tryz.prog 25 #[.agg #[.int .i64 ip, .int .i64 b, .int .i64 gate, .string gm, .string wm, .int .i64 res, .slice A6 g.length c6, .slice A7 l.length c7], .agg #[.slice B0 us.length d0, .slice B1 ss.length d1, .slice B2 fs.length d2, .slice B3 rs.length d3, .int .i64 nx], .string mac, .int .i64 ip2, .int .i64 now] w fun e w' => ∃ (q : GV) (ids : List Int) (code : Int) (v0 v1 v2 v3 vi : Value), e = .returned (.tuple #[.agg #[v0, v1, v2, v3, .int .i64 q.nx], vi, .int .i64 code]) ∧ MovOut (GuestsP ip b gate gm wm res g l us ss fs rs nx) ⟨us, ss, fs, rs, nx⟩ mac ip2 now q ids code ∧ Kd.R k92 92 w' w.heap.size (fun _ => True) v0 q.us ∧ Kd.R k76 76 w' w.heap.size (fun _ => True) v1 q.ss ∧ Kd.R k81 81 w' w.heap.size (fun _ => True) v2 q.fs ∧ Kd.R k83 83 w' w.heap.size (fun _ => True) v3 q.rs ∧ Kd.R (Kd.int .i64) 3 w' w.heap.size (fun _ => True) vi ids ∧ Below w.heap.size w w' := by
  have hu2 := Tryz.underlying41
  have hu := Tryz.underlying48
  have H0 := Aside0.mk (And.intro hg (And.intro hl (And.intro h0 (And.intro (R_toC h1).2 (And.intro h2 (R_toC h3).2)))))
  have H1 := Aside0.mk h1
  have H3 := Aside0.mk h3
  have HZ := Aside0.mk (And.intro zr (And.intro zu (And.intro zs zf)))
  clear hg hl h0 h1 h2 h3 zr zu zs zf
  have HB := Aside0.mk (Below.refl w.heap.size w)
  rcases dec_em ((65536 : Int) < (mac.size : Int)) with ⟨kl, bl⟩ | ⟨kl, bl⟩
  all_goals have KL := Aside0.mk kl
  all_goals clear kl
  all_goals go_enter Tryz.func25, Tryz.ntmps25
  · go_wp2
    exact bodyPost_ret (results_ctt rfl _ _ (w.heap.size + 2) 48 #[.slice none 0 0, .slice none 0 0, .slice none 0 0, .slice none 0 0, .int .i64 0] (0, 0) _ rfl (blk_alloc (blk_new2 _ _ _ _) _) hu rfl (by kernel_rfl)) rfl ⟨GV.none, [], 2, _, _, _, _, _, rfl, .inl ⟨KL.out, rfl, rfl, rfl⟩, Kd.R_nil _ _ _ _ _, Kd.R_nil _ _ _ _ _, Kd.R_nil _ _ _ _ _, Kd.R_nil _ _ _ _ _, R_emp (by first | rfl | (simp only [alloc_sz]; done) | (simp only [alloc_sz]; omega)) (by omega), (by repeat' (with_reducible first | exact HB.out | apply below_alloc | refine below_set ?_ (by omega)))⟩
  · go_wp2_with (first
      | (go_at_call 63; go_loud (refine (sAsk1 ip b gate gm wm res A6 c6 g A7 c7 l B0 B1 B2 B3 d0 d1 d2 d3 us ss fs rs nx now _ (Kd.C_below H0.out.1 (by repeat' (with_reducible first | exact HB.out | apply below_alloc | apply below_drew1 | refine below_set ?_ (by omega)))) (Kd.C_below H0.out.2.1 (by repeat' (with_reducible first | exact HB.out | apply below_alloc | apply below_drew1 | refine below_set ?_ (by omega)))) (Kd.C_below H0.out.2.2.1 (by repeat' (with_reducible first | exact HB.out | apply below_alloc | apply below_drew1 | refine below_set ?_ (by omega)))) (Kd.C_below H0.out.2.2.2.1 (by repeat' (with_reducible first | exact HB.out | apply below_alloc | apply below_drew1 | refine below_set ?_ (by omega)))) (Kd.C_below H0.out.2.2.2.2.1 (by repeat' (with_reducible first | exact HB.out | apply below_alloc | apply below_drew1 | refine below_set ?_ (by omega)))) (Kd.C_below H0.out.2.2.2.2.2 (by repeat' (with_reducible first | exact HB.out | apply below_alloc | apply below_drew1 | refine below_set ?_ (by omega)))) (by omega) (by omega) HZ.out.1 zm zw (by omega) (by omega) (by omega) (by omega) HZ.out.2.1 HZ.out.2.2.1 HZ.out.2.2.2).mono ?_; rintro e w2 ⟨c, rfl, hA, hb⟩; have HA := Aside0.mk hA; rcases hA with ⟨rfl, a1, a2⟩ | ⟨rfl, a1⟩ | ⟨rfl, a1, a2⟩ <;> ((try clear a2); clear a1; have n_ := Aside0.mk (below_step (w := w) (by repeat' (with_reducible first | exact HB.out | apply below_alloc | apply below_drew1 | refine below_set ?_ (by omega))) hb); clear HB; have HB := n_; clear n_; have n_ := Aside0.mk (blk_below (g := w.heap.size) (o := .cells #[.int .i64 ip, .int .i64 b, .int .i64 gate, .string gm, .string wm, .int .i64 res, .slice A6 g.length c6, .slice A7 l.length c7] 41 (0, 0)) (by repeat' (with_reducible first | exact HX.out | exact blk_alloc (blk_alloc (blk_new _ _) _) _ | exact blk_alloc (blk_new1 _ _ _) _ | exact blk_new2 _ _ _ _ | refine blk_alloc ?_ _)) hb); (try clear HX); have HX := n_; clear n_; have n_ := Aside0.mk (blk_below (g := (w.heap.size + 1)) (o := .cells #[.slice B0 us.length d0, .slice B1 ss.length d1, .slice B2 fs.length d2, .slice B3 rs.length d3, .int .i64 nx] 48 (0, 0)) (by repeat' (with_reducible first | exact HG.out | exact blk_alloc (blk_alloc (blk_new _ _) _) _ | exact blk_alloc (blk_new1 _ _ _) _ | exact blk_new2 _ _ _ _ | refine blk_alloc ?_ _)) hb); (try clear HG); have HG := n_; clear n_; have n_ := Aside0.mk (blk_below (g := (w.heap.size + 2)) (o := .cells #[.slice none 0 0, .slice none 0 0, .slice none 0 0, .slice none 0 0, .int .i64 0] 48 (0, 0)) (by repeat' (with_reducible first | exact HR.out | exact blk_alloc (blk_alloc (blk_new _ _) _) _ | exact blk_alloc (blk_new1 _ _ _) _ | exact blk_new2 _ _ _ _ | refine blk_alloc ?_ _)) hb); (try clear HR); have HR := n_; clear n_; (try clear cxHX hzHX); (try clear cxHG hzHG); (try clear cxHR hzHR frHR); have cxHX := blk_cell HX.out; have hzHX := blk_lt HX.out; have cxHG := blk_cell HG.out; have hzHG := blk_lt HG.out; have cxHR := blk_cell HR.out; have hzHR := blk_lt HR.out; have frHR := blk_frozen HR.out; clear hb)))
      | (go_at_call 83; go_loud (obtain ⟨S, R, J, hS⟩ : ∃ S R J, endF (czM mac ip2) now [] ss rs [] = (S, R, J) := ⟨_, _, _, rfl⟩; have hq := sMov1 B0 B1 B2 B3 us.length fs.length d0 d1 d2 d3 ss rs nx mac ip2 now _ (Kd.R_below H1.out (by repeat' (with_reducible first | exact HB.out | apply below_alloc | apply below_drew1 | refine below_set ?_ (by omega)))) (Kd.R_below H3.out (by repeat' (with_reducible first | exact HB.out | apply below_alloc | apply below_drew1 | refine below_set ?_ (by omega)))) y1 y3; rw [hS] at hq; refine hq.mono ?_; rintro e w5 ⟨X1, x1, X3, x3, vi, rfl, q1, q3, qi, hb⟩; have hln := endF_len hS y3; simp only [List.length_nil, Nat.zero_add] at hln; obtain ⟨hl1, hl3, hli⟩ := hln; have HS := Aside0.mk hS; clear hS; have K1 := Aside0.mk q1; have K3 := Aside0.mk q3; (obtain ⟨Ai, ci, ei⟩ := Kd.R_slice qi); subst ei; have KI := Aside0.mk (R_lo qi (b2 := w.heap.size) (by omega)); clear q1 q3 qi hq; have n_ := Aside0.mk (below_step (w := w) (by repeat' (with_reducible first | exact HB.out | apply below_alloc | apply below_drew1 | refine below_set ?_ (by omega))) hb); clear HB; have HB := n_; clear n_; have n_ := Aside0.mk (blk_below (g := w.heap.size) (o := .cells #[.int .i64 ip, .int .i64 b, .int .i64 gate, .string gm, .string wm, .int .i64 res, .slice A6 g.length c6, .slice A7 l.length c7] 41 (0, 0)) (by repeat' (with_reducible first | exact HX.out | exact blk_alloc (blk_alloc (blk_new _ _) _) _ | exact blk_alloc (blk_new1 _ _ _) _ | exact blk_new2 _ _ _ _ | refine blk_alloc ?_ _)) hb); (try clear HX); have HX := n_; clear n_; have n_ := Aside0.mk (blk_below (g := (w.heap.size + 1)) (o := .cells #[.slice B0 us.length d0, .slice B1 ss.length d1, .slice B2 fs.length d2, .slice B3 rs.length d3, .int .i64 nx] 48 (0, 0)) (by repeat' (with_reducible first | exact HG.out | exact blk_alloc (blk_alloc (blk_new _ _) _) _ | exact blk_alloc (blk_new1 _ _ _) _ | exact blk_new2 _ _ _ _ | refine blk_alloc ?_ _)) hb); (try clear HG); have HG := n_; clear n_; have n_ := Aside0.mk (blk_below (g := (w.heap.size + 2)) (o := .cells #[.slice none 0 0, .slice none 0 0, .slice none 0 0, .slice none 0 0, .int .i64 0] 48 (0, 0)) (by repeat' (with_reducible first | exact HR.out | exact blk_alloc (blk_alloc (blk_new _ _) _) _ | exact blk_alloc (blk_new1 _ _ _) _ | exact blk_new2 _ _ _ _ | refine blk_alloc ?_ _)) hb); (try clear HR); have HR := n_; clear n_; (try clear cxHX hzHX); (try clear cxHG hzHG); (try clear cxHR hzHR frHR); have cxHX := blk_cell HX.out; have hzHX := blk_lt HX.out; have cxHG := blk_cell HG.out; have hzHG := blk_lt HG.out; have cxHR := blk_cell HR.out; have hzHR := blk_lt HR.out; have frHR := blk_frozen HR.out; clear hb))
      | (go_at_call 65; go_loud (refine (spec_l08Own.calls B0 d0 us X1 x1 S B2 d2 fs X3 x3 R nx us S fs R nx _ (Kd.C_below H0.out.2.2.1 (by repeat' (with_reducible first | exact HB.out | apply below_alloc | apply below_drew1 | refine below_set ?_ (by omega)))) m0 (R_toC (Kd.R_below K1.out (below_alloc (Below.refl _ _) _))).2 (R_toC K1.out).1 (Kd.C_below H0.out.2.2.2.2.1 (by repeat' (with_reducible first | exact HB.out | apply below_alloc | apply below_drew1 | refine below_set ?_ (by omega)))) m2 (R_toC (Kd.R_below K3.out (below_alloc (Below.refl _ _) _))).2 (R_toC K3.out).1 (own_f us S fs R nx (by omega) (by omega) (by omega) (by omega))).mono ?_; rintro e w6 ⟨v0, v1, v2, v3, rfl, o0, o1, o2, o3, hb⟩; (obtain ⟨O0, p0, e0⟩ := Kd.R_slice o0); subst e0; (obtain ⟨O1, p1, e1⟩ := Kd.R_slice o1); subst e1; (obtain ⟨O2, p2, e2⟩ := Kd.R_slice o2); subst e2; (obtain ⟨O3, p3, e3⟩ := Kd.R_slice o3); subst e3; have hszo := HB.out.size; have n_ := Aside0.mk (Kd.R_below (Kd.R_below KI.out (below_alloc (Below.refl _ _) _)) hb); clear KI; have KI := n_; clear n_; have hwl := Nat.le_trans hszo (below_alloc (Below.refl w5.heap.size w5) (.cells #[.slice B0 us.length d0, .slice X1 S.length x1, .slice B2 fs.length d2, .slice X3 R.length x3, .int .i64 nx] 48 (0, 0))).size; have O_0 := Aside0.mk (R_lo o0 hwl); have O_1 := Aside0.mk (R_lo o1 hwl); have O_2 := Aside0.mk (R_lo o2 hwl); have O_3 := Aside0.mk (R_lo o3 hwl); clear o0 o1 o2 o3 hwl; have n_ := Aside0.mk (below_step (w := w) (by repeat' (with_reducible first | exact HB.out | apply below_alloc | apply below_drew1 | refine below_set ?_ (by omega))) hb); clear HB; have HB := n_; clear n_; have n_ := Aside0.mk (blk_below (g := w.heap.size) (o := .cells #[.int .i64 ip, .int .i64 b, .int .i64 gate, .string gm, .string wm, .int .i64 res, .slice A6 g.length c6, .slice A7 l.length c7] 41 (0, 0)) (by repeat' (with_reducible first | exact HX.out | exact blk_alloc (blk_alloc (blk_new _ _) _) _ | exact blk_alloc (blk_new1 _ _ _) _ | exact blk_new2 _ _ _ _ | refine blk_alloc ?_ _)) hb); (try clear HX); have HX := n_; clear n_; have n_ := Aside0.mk (blk_below (g := (w.heap.size + 1)) (o := .cells #[.slice B0 us.length d0, .slice B1 ss.length d1, .slice B2 fs.length d2, .slice B3 rs.length d3, .int .i64 nx] 48 (0, 0)) (by repeat' (with_reducible first | exact HG.out | exact blk_alloc (blk_alloc (blk_new _ _) _) _ | exact blk_alloc (blk_new1 _ _ _) _ | exact blk_new2 _ _ _ _ | refine blk_alloc ?_ _)) hb); (try clear HG); have HG := n_; clear n_; have n_ := Aside0.mk (blk_below (g := (w.heap.size + 2)) (o := .cells #[.slice none 0 0, .slice none 0 0, .slice none 0 0, .slice none 0 0, .int .i64 0] 48 (0, 0)) (by repeat' (with_reducible first | exact HR.out | exact blk_alloc (blk_alloc (blk_new _ _) _) _ | exact blk_alloc (blk_new1 _ _ _) _ | exact blk_new2 _ _ _ _ | refine blk_alloc ?_ _)) hb); (try clear HR); have HR := n_; clear n_; (try clear cxHX hzHX); (try clear cxHG hzHG); (try clear cxHR hzHR frHR); have cxHX := blk_cell HX.out; have hzHX := blk_lt HX.out; have cxHG := blk_cell HG.out; have hzHG := blk_lt HG.out; have cxHR := blk_cell HR.out; have hzHR := blk_lt HR.out; have frHR := blk_frozen HR.out; clear hb)))
    · refine bodyPost_ret (results_ctt rfl _ _ (w.heap.size + 2) 48 #[.slice O0 us.length p0, .slice O1 S.length p1, .slice O2 fs.length p2, .slice O3 R.length p3, .int .i64 nx] (0, 0) _ rfl (res5 HR.out) hu rfl (by kernel_rfl)) rfl ⟨⟨us, S, fs, R, nx⟩, J, 0, _, _, _, _, _, rfl, .inr ⟨Int.not_lt.2 KL.out, .inr ⟨HA.out, ⟨S, R, J, HS.out, rfl, rfl⟩, rfl⟩⟩, ?_, ?_, ?_, ?_, ?_, (by repeat' (with_reducible first | exact HB.out | refine below_set ?_ (by omega)))⟩
      · exact Kd.R_set5 O_0.out HR.out (by decide)
      · exact Kd.R_set5 O_1.out HR.out (by decide)
      · exact Kd.R_set5 O_2.out HR.out (by decide)
      · exact Kd.R_set5 O_3.out HR.out (by decide)
      · exact Kd.R_set5 KI.out HR.out (by decide)
    · exact bodyPost_ret (results_ctt rfl _ _ (w.heap.size + 2) 48 #[.slice none 0 0, .slice none 0 0, .slice none 0 0, .slice none 0 0, .int .i64 0] (0, 0) _ rfl (blk_alloc (res5 HR.out) _) hu rfl (by kernel_rfl)) rfl ⟨GV.none, [], 1, _, _, _, _, _, rfl, .inr ⟨Int.not_lt.2 KL.out, .inl ⟨HA.out, by decide, rfl, rfl⟩⟩, Kd.R_nil _ _ _ _ _, Kd.R_nil _ _ _ _ _, Kd.R_nil _ _ _ _ _, Kd.R_nil _ _ _ _ _, R_emp (by rw [sz_set, sz_set, sz_set, sz_set, sz_set]) HB.out.size, (by repeat' (with_reducible first | exact HB.out | apply below_alloc | refine below_set ?_ (by omega)))⟩
    · exact bodyPost_ret (results_ctt rfl _ _ (w.heap.size + 2) 48 #[.slice none 0 0, .slice none 0 0, .slice none 0 0, .slice none 0 0, .int .i64 0] (0, 0) _ rfl (blk_alloc (res5 HR.out) _) hu rfl (by kernel_rfl)) rfl ⟨GV.none, [], 4, _, _, _, _, _, rfl, .inr ⟨Int.not_lt.2 KL.out, .inl ⟨HA.out, by decide, rfl, rfl⟩⟩, Kd.R_nil _ _ _ _ _, Kd.R_nil _ _ _ _ _, Kd.R_nil _ _ _ _ _, Kd.R_nil _ _ _ _ _, R_emp (by rw [sz_set, sz_set, sz_set, sz_set, sz_set]) HB.out.size, (by repeat' (with_reducible first | exact HB.out | apply below_alloc | refine below_set ?_ (by omega)))⟩
set_option maxHeartbeats 8000000 in
set_option maxRecDepth 100000 in
theorem iMovS1 (ip b gate : Int) (gm wm : ByteArray) (res : Int) (A6 : Option Addr) (c6 : Nat) (g : List S140) (A7 : Option Addr) (c7 : Nat) (l : List S145) (B0 B1 B2 B3 : Option Addr) (d0 d1 d2 d3 : Nat) (us : List S92) (ss : List S76) (fs : List S81) (rs : List S83) (nx : Int) (mac : ByteArray) (ip2 now : Int) (w : World) (hg : Kd.C k140 w A6 g.length g) (hl : Kd.C k145 w A7 l.length l) (h0 : Kd.C k92 w B0 us.length us) (h1 : Kd.R k76 76 w 0 (fun _ => True) (.slice B1 ss.length d1) ss) (h2 : Kd.C k81 w B2 fs.length fs) (h3 : Kd.R k83 83 w 0 (fun _ => True) (.slice B3 rs.length d3) rs) (zg : g.length ≤ 1048576) (zl : l.length ≤ 1048576) (zr : ∀ x ∈ l, x.f1.length ≤ 1152921504606846976 ∧ x.f0.size ≤ 1152921504606846976) (zm : gm.size ≤ 1152921504606846976) (zw : wm.size ≤ 1152921504606846976) (y0 : us.length ≤ 1048576) (y1 : ss.length ≤ 1048576) (y2 : fs.length ≤ 1048576) (y3 : rs.length ≤ 1048576) (m0 : us.length ≤ d0) (m1 : ss.length ≤ d1) (m2 : fs.length ≤ d2) (m3 : rs.length ≤ d3) (zu : ∀ u ∈ us, u.f0.size ≤ 1152921504606846976 ∧ u.f1.size ≤ 1152921504606846976 ∧ u.f2.size ≤ 1152921504606846976) (zs : ∀ s ∈ ss, s.f2.size ≤ 1152921504606846976) (zf : ∀ f ∈ fs, f.f0.size ≤ 1152921504606846976) :
    Calls Tryz.prog 26 #[.agg #[.int .i64 ip, .int .i64 b, .int .i64 gate, .string gm, .string wm, .int .i64 res, .slice A6 g.length c6, .slice A7 l.length c7], .agg #[.slice B0 us.length d0, .slice B1 ss.length d1, .slice B2 fs.length d2, .slice B3 rs.length d3, .int .i64 nx], .string mac, .int .i64 ip2, .int .i64 now] w fun e w' => ∃ (q : GV) (ids : List Int) (code : Int) (v0 v1 v2 v3 vi : Value), e = .returned (.tuple #[.agg #[v0, v1, v2, v3, .int .i64 q.nx], vi, .int .i64 code]) ∧ MovOut (GuestsP ip b gate gm wm res g l us ss fs rs nx) ⟨us, ss, fs, rs, nx⟩ mac ip2 now q ids code ∧ Kd.R k92 92 w' w.heap.size (fun _ => True) v0 q.us ∧ Kd.R k76 76 w' w.heap.size (fun _ => True) v1 q.ss ∧ Kd.R k81 81 w' w.heap.size (fun _ => True) v2 q.fs ∧ Kd.R k83 83 w' w.heap.size (fun _ => True) v3 q.rs ∧ Kd.R (Kd.int .i64) 3 w' w.heap.size (fun _ => True) vi ids ∧ Below w.heap.size w w' := by
  have hu2 := Tryz.underlying41
  have hu := Tryz.underlying48
  have H0 := Aside0.mk (And.intro hg (And.intro hl (And.intro h0 (And.intro (R_toC h1).2 (And.intro h2 (R_toC h3).2)))))
  have H1 := Aside0.mk h1
  have H3 := Aside0.mk h3
  have HZ := Aside0.mk (And.intro zr (And.intro zu (And.intro zs zf)))
  clear hg hl h0 h1 h2 h3 zr zu zs zf
  have HB := Aside0.mk (Below.refl w.heap.size w)
  rcases dec_em ((65536 : Int) < (mac.size : Int)) with ⟨kl, bl⟩ | ⟨kl, bl⟩
  all_goals have KL := Aside0.mk kl
  all_goals clear kl
  all_goals go_enter Tryz.func26, Tryz.ntmps26
  · go_wp2
    exact bodyPost_ret (results_ctt rfl _ _ (w.heap.size + 2) 48 #[.slice none 0 0, .slice none 0 0, .slice none 0 0, .slice none 0 0, .int .i64 0] (0, 0) _ rfl (blk_new2 _ _ _ _) hu rfl (by kernel_rfl)) rfl ⟨GV.none, [], 2, _, _, _, _, _, rfl, .inl ⟨KL.out, rfl, rfl, rfl⟩, Kd.R_nil _ _ _ _ _, Kd.R_nil _ _ _ _ _, Kd.R_nil _ _ _ _ _, Kd.R_nil _ _ _ _ _, Kd.R_nil _ _ _ _ _, (by repeat' (with_reducible first | exact HB.out | apply below_alloc | refine below_set ?_ (by omega)))⟩
  · go_wp2_with (first
      | (go_at_call 67; go_loud (refine (iAsk1 ip b gate gm wm res A6 c6 g A7 c7 l B0 B1 B2 B3 d0 d1 d2 d3 us ss fs rs nx now _ (Kd.C_below H0.out.1 (by repeat' (with_reducible first | exact HB.out | apply below_alloc | apply below_drew1 | refine below_set ?_ (by omega)))) (Kd.C_below H0.out.2.1 (by repeat' (with_reducible first | exact HB.out | apply below_alloc | apply below_drew1 | refine below_set ?_ (by omega)))) (Kd.C_below H0.out.2.2.1 (by repeat' (with_reducible first | exact HB.out | apply below_alloc | apply below_drew1 | refine below_set ?_ (by omega)))) (Kd.C_below H0.out.2.2.2.1 (by repeat' (with_reducible first | exact HB.out | apply below_alloc | apply below_drew1 | refine below_set ?_ (by omega)))) (Kd.C_below H0.out.2.2.2.2.1 (by repeat' (with_reducible first | exact HB.out | apply below_alloc | apply below_drew1 | refine below_set ?_ (by omega)))) (Kd.C_below H0.out.2.2.2.2.2 (by repeat' (with_reducible first | exact HB.out | apply below_alloc | apply below_drew1 | refine below_set ?_ (by omega)))) (by omega) (by omega) HZ.out.1 zm zw (by omega) (by omega) (by omega) (by omega) m1 HZ.out.2.1 HZ.out.2.2.1 HZ.out.2.2.2).mono ?_; rintro e w2 ⟨c, rfl, hA, hb⟩; have HA := Aside0.mk hA; rcases hA with ⟨rfl, a1, a2⟩ | ⟨rfl, a1⟩ | ⟨rfl, a1, a2⟩ <;> ((try clear a2); clear a1; have n_ := Aside0.mk (below_step (w := w) (by repeat' (with_reducible first | exact HB.out | apply below_alloc | apply below_drew1 | refine below_set ?_ (by omega))) hb); clear HB; have HB := n_; clear n_; have n_ := Aside0.mk (blk_below (g := w.heap.size) (o := .cells #[.int .i64 ip, .int .i64 b, .int .i64 gate, .string gm, .string wm, .int .i64 res, .slice A6 g.length c6, .slice A7 l.length c7] 41 (0, 0)) (by repeat' (with_reducible first | exact HX.out | exact blk_alloc (blk_alloc (blk_new _ _) _) _ | exact blk_alloc (blk_new1 _ _ _) _ | exact blk_new2 _ _ _ _ | refine blk_alloc ?_ _)) hb); (try clear HX); have HX := n_; clear n_; have n_ := Aside0.mk (blk_below (g := (w.heap.size + 1)) (o := .cells #[.slice B0 us.length d0, .slice B1 ss.length d1, .slice B2 fs.length d2, .slice B3 rs.length d3, .int .i64 nx] 48 (0, 0)) (by repeat' (with_reducible first | exact HG.out | exact blk_alloc (blk_alloc (blk_new _ _) _) _ | exact blk_alloc (blk_new1 _ _ _) _ | exact blk_new2 _ _ _ _ | refine blk_alloc ?_ _)) hb); (try clear HG); have HG := n_; clear n_; have n_ := Aside0.mk (blk_below (g := (w.heap.size + 2)) (o := .cells #[.slice none 0 0, .slice none 0 0, .slice none 0 0, .slice none 0 0, .int .i64 0] 48 (0, 0)) (by repeat' (with_reducible first | exact HR.out | exact blk_alloc (blk_alloc (blk_new _ _) _) _ | exact blk_alloc (blk_new1 _ _ _) _ | exact blk_new2 _ _ _ _ | refine blk_alloc ?_ _)) hb); (try clear HR); have HR := n_; clear n_; (try clear cxHX hzHX); (try clear cxHG hzHG); (try clear cxHR hzHR frHR); have cxHX := blk_cell HX.out; have hzHX := blk_lt HX.out; have cxHG := blk_cell HG.out; have hzHG := blk_lt HG.out; have cxHR := blk_cell HR.out; have hzHR := blk_lt HR.out; have frHR := blk_frozen HR.out; clear hb)))
      | (go_at_call 68; go_loud (refine (impl_cloneGuests.calls B0 d0 us B1 d1 ss B2 d2 fs B3 d3 rs nx us ss fs rs nx _ (Kd.C_below H0.out.2.2.1 (by repeat' (with_reducible first | exact HB.out | apply below_alloc | apply below_drew1 | refine below_set ?_ (by omega)))) m0 (Kd.C_below H0.out.2.2.2.1 (by repeat' (with_reducible first | exact HB.out | apply below_alloc | apply below_drew1 | refine below_set ?_ (by omega)))) m1 (Kd.C_below H0.out.2.2.2.2.1 (by repeat' (with_reducible first | exact HB.out | apply below_alloc | apply below_drew1 | refine below_set ?_ (by omega)))) m2 (Kd.C_below H0.out.2.2.2.2.2 (by repeat' (with_reducible first | exact HB.out | apply below_alloc | apply below_drew1 | refine below_set ?_ (by omega)))) m3 (clone_f us ss fs rs nx (by omega) (by omega) (by omega) (by omega))).mono ?_; rintro e wC ⟨v0, v1, v2, v3, rfl, o0, o1, o2, o3, hb⟩; have hs3 := Aside0.mk hzHR; (obtain ⟨O0, p0, e0⟩ := Kd.R_slice o0); subst e0; (obtain ⟨O1, p1, e1⟩ := Kd.R_slice o1); subst e1; (obtain ⟨O2, p2, e2⟩ := Kd.R_slice o2); subst e2; (obtain ⟨O3, p3, e3⟩ := Kd.R_slice o3); subst e3; have O_0 := Aside0.mk (Kd.R_lower o0 hs3.out); have O_1 := Aside0.mk (Kd.R_lower o1 hs3.out); have O_2 := Aside0.mk (Kd.R_lower o2 hs3.out); have O_3 := Aside0.mk (Kd.R_lower o3 hs3.out); clear o0 o1 o2 o3; have hsC := Aside0.mk (Nat.le_trans hs3.out hb.size); have n_ := Aside0.mk (below_step (w := w) (by repeat' (with_reducible first | exact HB.out | apply below_alloc | apply below_drew1 | refine below_set ?_ (by omega))) hb); clear HB; have HB := n_; clear n_; have n_ := Aside0.mk (blk_below (g := w.heap.size) (o := .cells #[.int .i64 ip, .int .i64 b, .int .i64 gate, .string gm, .string wm, .int .i64 res, .slice A6 g.length c6, .slice A7 l.length c7] 41 (0, 0)) (by repeat' (with_reducible first | exact HX.out | exact blk_alloc (blk_alloc (blk_new _ _) _) _ | exact blk_alloc (blk_new1 _ _ _) _ | exact blk_new2 _ _ _ _ | refine blk_alloc ?_ _)) hb); (try clear HX); have HX := n_; clear n_; have n_ := Aside0.mk (blk_below (g := (w.heap.size + 1)) (o := .cells #[.slice B0 us.length d0, .slice B1 ss.length d1, .slice B2 fs.length d2, .slice B3 rs.length d3, .int .i64 nx] 48 (0, 0)) (by repeat' (with_reducible first | exact HG.out | exact blk_alloc (blk_alloc (blk_new _ _) _) _ | exact blk_alloc (blk_new1 _ _ _) _ | exact blk_new2 _ _ _ _ | refine blk_alloc ?_ _)) hb); (try clear HG); have HG := n_; clear n_; have n_ := Aside0.mk (blk_below (g := (w.heap.size + 2)) (o := .cells #[.slice none 0 0, .slice none 0 0, .slice none 0 0, .slice none 0 0, .int .i64 0] 48 (0, 0)) (by repeat' (with_reducible first | exact HR.out | exact blk_alloc (blk_alloc (blk_new _ _) _) _ | exact blk_alloc (blk_new1 _ _ _) _ | exact blk_new2 _ _ _ _ | refine blk_alloc ?_ _)) hb); (try clear HR); have HR := n_; clear n_; (try clear cxHX hzHX); (try clear cxHG hzHG); (try clear cxHR hzHR frHR); have cxHX := blk_cell HX.out; have hzHX := blk_lt HX.out; have cxHG := blk_cell HG.out; have hzHG := blk_lt HG.out; have cxHR := blk_cell HR.out; have hzHR := blk_lt HR.out; have frHR := blk_frozen HR.out; clear hb))
      | (go_at_call 84; go_loud (obtain ⟨S, R, J, hS⟩ : ∃ S R J, endF (czM mac ip2) now [] ss rs [] = (S, R, J) := ⟨_, _, _, rfl⟩; have HQ0 := blk_new wC (.cells #[.slice O0 us.length p0, .slice O1 ss.length p1, .slice O2 fs.length p2, .slice O3 rs.length p3, .int .i64 nx] 48 (0, 0)); have hq := iMov1 wC.heap.size O0 O1 O2 O3 us.length fs.length p0 p1 p2 p3 ss rs nx mac ip2 now (w.heap.size + 3) (wC.alloc (.cells #[.slice O0 us.length p0, .slice O1 ss.length p1, .slice O2 fs.length p2, .slice O3 rs.length p3, .int .i64 nx] 48 (0, 0))) HQ0 (Kd.R_alloc O_1.out _) (Kd.R_alloc O_3.out _) hsC.out y1 y3 (apart_all HA.out.yes); rw [hS] at hq; refine hq.mono ?_; rintro e w5 ⟨x1, X3, x3, vi, rfl, qx, q1, q3, qi, hbb, hok⟩; have hln := endF_len hS y3; simp only [List.length_nil, Nat.zero_add] at hln; obtain ⟨hl1, hl3, hli⟩ := hln; have HS := Aside0.mk hS; clear hS; have O2_0 := Aside0.mk (R_othS (Kd.R_alloc O_0.out _) hok ⟨_, HQ0⟩ (by decide)); have O2_2 := Aside0.mk (R_othS (Kd.R_alloc O_2.out _) hok ⟨_, HQ0⟩ (by decide)); clear O_0 O_1 O_2 O_3; have O_0 := O2_0; have O_2 := O2_2; have O_1 := Aside0.mk q1; have O_3 := Aside0.mk q3; clear O2_0 O2_2 q1 q3; (obtain ⟨Ai, ci, ei⟩ := Kd.R_slice qi); subst ei; have KI := Aside0.mk (R_lo qi (b2 := w.heap.size) (by omega)); have HR2 := Aside0.mk ((hbb.block (w.heap.size + 2) (by omega)).trans (blk_alloc HR.out _)); clear HR; have HR := HR2; clear HR2; have n_ := Aside0.mk (below_base (below_alloc HB.out _) hbb (by omega)); clear HB; have HB := n_; clear n_; have HQ := Aside0.mk qx; clear qx qi hbb hok hq HQ0 HX HG; (try clear cxHX hzHX); (try clear cxHG hzHG); (try clear cxHR hzHR frHR); have cxHR := blk_cell HR.out; have hzHR := blk_lt HR.out; have frHR := blk_frozen HR.out; have cxHQ := blk_cell HQ.out; have hzHQ := blk_lt HQ.out)))
    · refine bodyPost_ret (results_ctt rfl _ _ (w.heap.size + 2) 48 #[.slice O0 us.length p0, .slice O1 S.length x1, .slice O2 fs.length p2, .slice X3 R.length x3, .int .i64 nx] (0, 0) _ rfl (res5 HR.out) hu rfl (by kernel_rfl)) rfl ⟨⟨us, S, fs, R, nx⟩, J, 0, _, _, _, _, _, rfl, .inr ⟨Int.not_lt.2 KL.out, .inr ⟨HA.out, ⟨S, R, J, HS.out, rfl, rfl⟩, rfl⟩⟩, ?_, ?_, ?_, ?_, ?_, (by repeat' (with_reducible first | exact HB.out | refine below_set ?_ (by omega)))⟩
      · exact Kd.R_set5 (R_lo O_0.out (by omega)) HR.out (by decide)
      · exact Kd.R_set5 (R_lo O_1.out (by omega)) HR.out (by decide)
      · exact Kd.R_set5 (R_lo O_2.out (by omega)) HR.out (by decide)
      · exact Kd.R_set5 (R_lo O_3.out (by omega)) HR.out (by decide)
      · exact Kd.R_set5 KI.out HR.out (by decide)
    · exact bodyPost_ret (results_ctt rfl _ _ (w.heap.size + 2) 48 #[.slice none 0 0, .slice none 0 0, .slice none 0 0, .slice none 0 0, .int .i64 0] (0, 0) _ rfl (res5 HR.out) hu rfl (by kernel_rfl)) rfl ⟨GV.none, [], 1, _, _, _, _, _, rfl, .inr ⟨Int.not_lt.2 KL.out, .inl ⟨HA.out, by decide, rfl, rfl⟩⟩, Kd.R_nil _ _ _ _ _, Kd.R_nil _ _ _ _ _, Kd.R_nil _ _ _ _ _, Kd.R_nil _ _ _ _ _, Kd.R_nil _ _ _ _ _, (by repeat' (with_reducible first | exact HB.out | refine below_set ?_ (by omega)))⟩
    · exact bodyPost_ret (results_ctt rfl _ _ (w.heap.size + 2) 48 #[.slice none 0 0, .slice none 0 0, .slice none 0 0, .slice none 0 0, .int .i64 0] (0, 0) _ rfl (res5 HR.out) hu rfl (by kernel_rfl)) rfl ⟨GV.none, [], 4, _, _, _, _, _, rfl, .inr ⟨Int.not_lt.2 KL.out, .inl ⟨HA.out, by decide, rfl, rfl⟩⟩, Kd.R_nil _ _ _ _ _, Kd.R_nil _ _ _ _ _, Kd.R_nil _ _ _ _ _, Kd.R_nil _ _ _ _ _, Kd.R_nil _ _ _ _ _, (by repeat' (with_reducible first | exact HB.out | refine below_set ?_ (by omega)))⟩
end
section
/-! ### laws_eqIntS: function 22 -/
def laws_eqIntS.l0 : Nat → List Int → List Int → Int → Option (Bool)
  | 0, _, _, _ => none
  | k + 1, x0, x1, x5 => if x5 < (x0.length : Int) then (if 0 ≤ x5 then (if x5 < (x1.length : Int) then (if (rd x0 x5) = (rd x1 x5) then (laws_eqIntS.l0 k x0 x1 (wrap64 (x5 + 1))) else (some false)) else (none)) else (none)) else (some true)
def laws_eqIntS.f (k : Nat) (l0 : List Int) (l1 : List Int) : Option (Bool) := if (l0.length : Int) = (l1.length : Int) then (laws_eqIntS.l0 k l0 l1 0) else (some false)
theorem laws_eqIntS.mono_l : ∀ k, (∀ y0 y1 y2, LeO (laws_eqIntS.l0 k y0 y1 y2) (laws_eqIntS.l0 (k + 1) y0 y1 y2))
  | 0 => fun _ _ _ r h => by simp [laws_eqIntS.l0] at h
  | k + 1 => by
    have ih0 := laws_eqIntS.mono_l k
    · intro y0 y1 y2
      unfold laws_eqIntS.l0
      repeat' first
      | (with_reducible exact ih0 _ _ _)
      | (with_reducible exact LeO.refl _)
      | (with_reducible exact LeO.none _)
      | (with_reducible refine LeO.ite ?_ ?_)
      | (with_reducible refine LeO.bind ?_ (fun _ => ?_))
      | exact ih0 _ _ _
      | exact LeO.none _
      | refine LeO.ite ?_ ?_
      | refine LeO.bind ?_ (fun _ => ?_)
theorem laws_eqIntS.mono : ∀ a0 a1 k, LeO (laws_eqIntS.f k a0 a1) (laws_eqIntS.f (k + 1) a0 a1) := by
  intro a0 a1 k
  have ih0 := laws_eqIntS.mono_l k
  unfold laws_eqIntS.f
  repeat' first
      | (with_reducible exact ih0 _ _ _)
      | (with_reducible exact LeO.refl _)
      | (with_reducible exact LeO.none _)
      | (with_reducible refine LeO.ite ?_ ?_)
      | (with_reducible refine LeO.bind ?_ (fun _ => ?_))
      | exact ih0 _ _ _
      | exact LeO.none _
      | refine LeO.ite ?_ ?_
      | refine LeO.bind ?_ (fun _ => ?_)
set_option maxHeartbeats 8000000 in
set_option maxRecDepth 100000 in
theorem laws_eqIntS.calls (k : Nat) (A0 : Option Addr) (c0 : Nat) (l0 : List Int) (A1 : Option Addr) (c1 : Nat) (l1 : List Int) (r : Bool) (w : World) (hr0 : Kd.C (Kd.int .i64) w A0 l0.length l0) (hc0 : l0.length ≤ c0) (hr1 : Kd.C (Kd.int .i64) w A1 l1.length l1) (hc1 : l1.length ≤ c1) (h : laws_eqIntS.f k l0 l1 = some r) :
    Calls Tryz.prog 22 #[.slice A0 l0.length c0, .slice A1 l1.length c1] w fun e w' => e = .returned (.bool r) ∧ Drawn0 w w' := by
  have HR0 := Aside0.mk hr0
  have HC0 := Aside0.mk hc0
  clear hr0 hc0
  have HR1 := Aside0.mk hr1
  have HC1 := Aside0.mk hc1
  clear hr1 hc1
  have H : (if (l0.length : Int) = (l1.length : Int) then (laws_eqIntS.l0 k l0 l1 0) else (some false)) = some r := h
  clear h
  by_cases c3 : (l0.length : Int) = (l1.length : Int)
  · rw [if_pos c3] at H
    have c3b0 : ((l0.length : Int) == (l1.length : Int)) = true := beq_iff_eq.mpr c3
    have c3b1 : ((l0.length : Int) != (l1.length : Int)) = false := bne_eq_false_iff_eq.mpr c3
    have c3b2 : (l0.length == l1.length) = true := by first | simpa using c3 | (simp at c3 ⊢; omega)
    clear c3
    have H' := Aside0.mk H
    clear H
    go_enter Tryz.func22, Tryz.ntmps22
    go_wp2
    repeat (go_quiet (fail); try go_wp2)
    go_loopg [5] k (fun kq v5 w' => ∃ (x5_1 : Int), v5 = .int .i64 x5_1 ∧ Aside0 (laws_eqIntS.l0 kq l0 l1 x5_1 = some r) ∧ Aside0 (kq ≤ k) ∧ Drawn0 w w')
    case atStart => exact ⟨(0), (by first | rfl | (simp; done) | (simp [*]; done) | (simp [ne_nil_b]; done) | (simp [ne_nil_b, *]; done)), H', ⟨Nat.le_refl _⟩, by repeat (first | exact Drawn0.refl _ | apply Drawn0.step)⟩
    case round =>
      clear H'
      try clear c1
      try clear c2
      try clear p2
      try clear c3
      try clear c3b0
      try clear c3b1
      try clear c3b2
      obtain ⟨x5_1, rfl, HA, HK1, ⟨m1, rfl⟩⟩ := hrel
      cases gk with
      | zero => exact absurd HA.out (by simp [laws_eqIntS.l0])
      | succ k1 =>
        have H := HA.out
        clear HA
        simp only [laws_eqIntS.l0] at H
        by_cases c4 : x5_1 < (l0.length : Int)
        · rw [if_pos c4] at H
          have c4b0 : decide (x5_1 < (l0.length : Int)) = true := decide_eq_true c4
          clear c4
          by_cases c5 : 0 ≤ x5_1
          · rw [if_pos c5] at H
            have c5b0 : decide (0 ≤ x5_1) = true := decide_eq_true c5
            clear c5
            by_cases c6 : x5_1 < (l1.length : Int)
            · rw [if_pos c6] at H
              have c6b0 : decide (x5_1 < (l1.length : Int)) = true := decide_eq_true c6
              clear c6
              by_cases c7 : (rd l0 x5_1) = (rd l1 x5_1)
              · rw [if_pos c7] at H
                have c7b0 : ((rd l0 x5_1) == (rd l1 x5_1)) = true := beq_iff_eq.mpr c7
                have c7b1 : ((rd l0 x5_1) != (rd l1 x5_1)) = false := bne_eq_false_iff_eq.mpr c7
                clear c7
                have H' := Aside0.mk H
                clear H
                have p792 : 0 ≤ (x5_1 : Int) := of_decide_eq_true (by first | (with_reducible assumption) | assumption)
                have q792 : x5_1 < (l0.length : Int) := of_decide_eq_true (by first | (with_reducible assumption) | assumption)
                obtain ⟨ad792, e792, hx792_0⟩ := Kd.at_int HR0.out x5_1 p792 q792
                cases e792
                replace p792 := eq_true p792
                replace q792 := eq_true q792
                have p793 : 0 ≤ (x5_1 : Int) := of_decide_eq_true (by first | (with_reducible assumption) | assumption)
                have q793 : x5_1 < (l1.length : Int) := of_decide_eq_true (by first | (with_reducible assumption) | assumption)
                obtain ⟨ad793, e793, hx793_0⟩ := Kd.at_int HR1.out x5_1 p793 q793
                cases e793
                replace p793 := eq_true p793
                replace q793 := eq_true q793
                go_wp2
                repeat (go_quiet (fail); try go_wp2)
                go_roundg k1
                case measure => have := HK1.out; omega
                case rel => exact ⟨(wrap64 (x5_1 + 1)), (by first | rfl | (simp; done) | (simp [*]; done) | (simp [ne_nil_b]; done) | (simp [ne_nil_b, *]; done)), H', ⟨by have := HK1.out; omega⟩, by repeat (first | exact Drawn0.refl _ | apply Drawn0.step)⟩
              · rw [if_neg c7] at H
                have c7b0 : ((rd l0 x5_1) == (rd l1 x5_1)) = false := beq_eq_false_iff_ne.mpr c7
                have c7b1 : ((rd l0 x5_1) != (rd l1 x5_1)) = true := bne_iff_ne.mpr c7
                obtain rfl := Option.some.inj H
                have p792 : 0 ≤ (x5_1 : Int) := of_decide_eq_true (by first | (with_reducible assumption) | assumption)
                have q792 : x5_1 < (l0.length : Int) := of_decide_eq_true (by first | (with_reducible assumption) | assumption)
                obtain ⟨ad792, e792, hx792_0⟩ := Kd.at_int HR0.out x5_1 p792 q792
                cases e792
                replace p792 := eq_true p792
                replace q792 := eq_true q792
                have p793 : 0 ≤ (x5_1 : Int) := of_decide_eq_true (by first | (with_reducible assumption) | assumption)
                have q793 : x5_1 < (l1.length : Int) := of_decide_eq_true (by first | (with_reducible assumption) | assumption)
                obtain ⟨ad793, e793, hx793_0⟩ := Kd.at_int HR1.out x5_1 p793 q793
                cases e793
                replace p793 := eq_true p793
                replace q793 := eq_true q793
                go_wp2
                repeat (go_quiet (fail); try go_wp2)
                go_ret
                exact ⟨by first | rfl | (simp; done) | (simp [*]; done) | (simp [ne_nil_b]; done) | (simp [ne_nil_b, *]; done), by repeat (first | exact Drawn0.refl _ | apply Drawn0.step)⟩
            · rw [if_neg c6] at H
              exact absurd H (by simp)
          · rw [if_neg c5] at H
            exact absurd H (by simp)
        · rw [if_neg c4] at H
          have c4b0 : decide (x5_1 < (l0.length : Int)) = false := decide_eq_false c4
          clear c4
          obtain rfl := Option.some.inj H
          go_wp2
          repeat (go_quiet (fail); try go_wp2)
          go_ret
          exact ⟨by first | rfl | (simp; done) | (simp [*]; done) | (simp [ne_nil_b]; done) | (simp [ne_nil_b, *]; done), by repeat (first | exact Drawn0.refl _ | apply Drawn0.step)⟩
  · rw [if_neg c3] at H
    have c3b0 : ((l0.length : Int) == (l1.length : Int)) = false := beq_eq_false_iff_ne.mpr c3
    have c3b1 : ((l0.length : Int) != (l1.length : Int)) = true := bne_iff_ne.mpr c3
    have c3b2 : (l0.length == l1.length) = false := by first | simpa using c3 | (simp at c3 ⊢; omega)
    obtain rfl := Option.some.inj H
    go_enter Tryz.func22, Tryz.ntmps22
    go_wp2
    repeat (go_quiet (fail); try go_wp2)
    go_ret
    exact ⟨by first | rfl | (simp; done) | (simp [*]; done) | (simp [ne_nil_b]; done) | (simp [ne_nil_b, *]; done), by repeat (first | exact Drawn0.refl _ | apply Drawn0.step)⟩
end
end Go.Proofs.YtkklokkldgkacaaGreat.X
